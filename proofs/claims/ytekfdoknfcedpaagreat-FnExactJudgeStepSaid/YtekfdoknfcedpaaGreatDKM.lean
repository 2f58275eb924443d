import Derived.Test.YtekfdoknfcedpaaGreatDNm
import Derived.Test.YtekfdoknfcedpaaGreatDK4
import Derived.Test.YtekfdoknfcedpaaGreatDKW1
import Derived.Test.YtekfdoknfcedpaaGreatDK5
section
set_option linter.unusedSimpArgs false
set_option linter.unusedVariables false
namespace Go.Proofs.YtekfdoknfcedpaaGreat
open Go Go.Ab
section
def NK (x0:AV):Prog:=Bn .leq x0 (.int .i64 0) fun a=>.ite a (.fin [.val (.str ⟨#[109,48]⟩)]) (.loop [x0,.str ⟨#[]⟩] (fun a=>Bn .gtr (g a 0) (.int .i64 0) fun b=>.ite b (Bn .rem (g a 0) (.int .i64 10) fun b=>Bn .add (.int .i64 48) b fun b=>.op (.conv .u8 b) fun b=>.op (.bE 1 1 [.int .u8 0] [(0,1,b)]) fun b=>.op (.qj b) fun b=>.op (.bin 1 .add b (g a 1)) fun b=>Bn .quo (g a 0) (.int .i64 10) fun a=>.leaf 0 [a,b]) (.leaf 2 [g a 0,g a 1])) fun a b=>aA a 1 (.leaf 1 b) (aA a 2 (.op (.bin 1 .add (.str ⟨#[109]⟩) (g b 1)) fun a=>.fin [.val a]) .bad))
theorem adV (x0:AV):CC Tryz.prog gB [x0] (NK x0):=cc Tryz.func166 [0,3] (fun _=>[])
end
theorem ajV:∀ (f f' k:Nat),k≤f→k≤f'→nN f k=nN f' k:=by
 intro f
 induction f with
 |zero=>
  intro f' k h h'
  have:k=0:=by omega
  subst this
  cases f'<;>simp[nN]
 |succ f ih=>
  intro f' k h h'
  cases f' with
  |zero=>
   have:k=0:=by omega
   subst this;simp[nN]
  |succ f'=>
   simp only[nN]
   split
   ·rfl
   ·rw[ih f' (k / 10) (by omega) (by omega)]
def sJ (n:Nat):List UInt8:=nN n n
theorem Vz:sJ 0=[]:=rfl
theorem Vy {n:Nat} (h:0 < n):sJ n=sJ (n / 10)++[UInt8.ofNat (48+n % 10)]:=by
 cases n with
 |zero=>omega
 |succ n=>
  unfold sJ
  rw[nN,if_neg (by omega),ajV n ((n+1) / 10) ((n+1) / 10) (by omega) (Nat.le_refl _)]
theorem akJ (n:Nat):(sJ n).length≤n:=by
 induction n using Nat.strongRecOn with
 |_ n ih=>
  by_cases h:0 < n
  ·rw[Vy h,List.length_append]
   have:=ih (n / 10) (by omega)
   simp only[List.length_cons,List.length_nil];omega
  ·have:n=0:=by omega
   subst this;simp[Vz]
theorem UY (a b:ByteArray):bys (a++b)=bys a++bys b:=by
 unfold bys
 simp[ByteArray.data_append]
theorem alq {a b:ByteArray} (h:bys a=bys b):a=b:=by
 unfold bys at h
 exact ByteArray.ext (Array.toList_inj.1 h)
section
variable{P:Program} {h:AH} {Q:Nat→List AV→AH→Prop} {k:AV→Prog}
theorem U2 {a b:ByteArray} (hl:a.size+b.size≤9223372036854775807) (hk:(k (.str (a++b))).awp P h Q):(Prog.op (.bin 1 .add (.str a) (.str b)) k).awp P h Q:=by
 simp only[Prog.awp,AOp.go,dQ,dP]
 rw[if_pos (by omega)];exact hk
theorem amU {n:Nat} (hn:n < 4611686018427387904) (hk:(k (.int .i64 ((n / 10:Nat):Int))).awp P h Q):(Prog.op (.bin 0 .quo (.int .i64 (n:Int)) (.int .i64 10)) k).awp P h Q:=by
 refine U3 (by decide) ?_
 have:(n:Int).tdiv 10=((n / 10:Nat):Int):=by rw[Int.tdiv_eq_ediv_of_nonneg (by omega)];omega
 rw[this,iA (by omega) (by omega)];exact hk
theorem amT {n:Nat} (hk:(k (.int .i64 ((n % 10:Nat):Int))).awp P h Q):(Prog.op (.bin 0 .rem (.int .i64 (n:Int)) (.int .i64 10)) k).awp P h Q:=by
 refine nD (by decide) ?_
 have:(n:Int).tmod 10=((n % 10:Nat):Int):=by rw[Int.tmod_eq_emod_of_nonneg (by omega)];omega
 rw[this];exact hk
theorem ame {n:Int} (h0:0≤n) (h1:n < 256) (hk:(k (.int .u8 n)).awp P h Q):(Prog.op (.conv .u8 (.int .i64 n)) k).awp P h Q:=by
 refine U6 ?_
 have:IntKind.u8.wrap n=n:=by
  rw[IntKind.wrap_u8];omega
 rw[this];exact hk
end
theorem Ao:KY Tryz.prog gB:=by
 intro k h h0 h1
 refine reader (adV _) (by simp only[old]) ?_
 unfold NK
 obtain⟨n,rfl⟩:∃ n:Nat,k=n:=⟨k.toNat,by omega⟩
 refine br (fun hle=>?_) (fun hgt=>?_)
 ·refine dH (dI (pv ?_))
  unfold mh;rw[if_pos hle]
 refine dw ?_
 refine yx (fun m vs h1=>∃ s,vs=[.int .i64 (m:Int),.str s]∧Ext h h1∧sJ m++bys s=sJ n∧m≤n) n ⟨_,rfl,Ext.refl _,by rw[show bys ⟨#[]⟩=[] from rfl,List.append_nil],Nat.le_refl _⟩ ?_
 rintro m vs h2 ⟨s,rfl,e2,hd,hm⟩
 simp only[g0,g1]
 have hl:=akJ n
 rw[←hd,List.length_append,uY] at hl
 refine br (fun hlt=>?_) (fun hge=>?_)
 ·refine dH (amT (jl (by omega) (by omega) (ame (by omega) (by omega) ?_)))
  refine yR (by rfl) (by decide) (by rfl) ?_
  refine akM (n:=48+((m % 10:Nat):Int)) (by simp[splice]) (by simp[live]) ?_
  refine U2 (by have:(⟨#[UInt8.ofNat (48+((m % 10:Nat):Int)).toNat]⟩:ByteArray).size=1:=rfl;omega) ?_
  refine amU (by omega) (dF (iQ ⟨m / 10,by omega,_,rfl,e2.push _,?_,by omega⟩))
  rw[UY,←hd,Vy (show 0 < m by omega),List.append_assoc]
  congr 1
 ·have:m=0:=by omega
  subst this
  rw[Vz,List.nil_append] at hd
  refine dw (dF (kP (by decide) (kJ (by decide) (kK ?_))))
  simp only[g1]
  refine U2 (by have:(⟨#[109]⟩:ByteArray).size=1:=rfl;omega) (dI (pv ?_ e2))
  unfold mh
  rw[if_neg hgt]
  congr 1
  refine alq ?_
  rw[UY,hd]
  rfl
end Go.Proofs.YtekfdoknfcedpaaGreat
end
section
set_option linter.unusedSimpArgs false
set_option linter.unusedVariables false
set_option maxHeartbeats 1000000
namespace Go.Proofs.YtekfdoknfcedpaaGreat
open Go Go.Ab
section
def abU (x0 x1:AV):Prog:=.loop [x1,.int .i64 0] (fun a=>Ln 0 x0 fun b=>Bn .lss (g a 1) b fun b=>.ite b (Cl gB [g a 0] fun b=>Ix 4 x0 (g a 1) fun c=>Sg 0 c b fun _=>Bn .add (g a 0) (.int .i64 1) fun b=>Bn .rem b (.int .i64 3) fun c=>Bn .eql c (.int .i64 0) fun c=>Ix 4 x0 (g a 1) fun d=>Sg 1 d c fun _=>Bn .add b (.int .i64 1) fun b=>Ix 4 x0 (g a 1) fun c=>Sg 2 c b fun _=>Bn .add b (.int .i64 1) fun b=>Cl gB [b] fun c=>Ix 4 x0 (g a 1) fun d=>Sg 3 d c fun _=>Bn .add b (.int .i64 1) fun b=>Bn .add (g a 1) (.int .i64 1) fun a=>.leaf 0 [b,a]) (.leaf 2 [g a 0,g a 1])) fun a b=>aA a 1 (.leaf 1 b) (aA a 2 (.fin [.val (g b 0)]) .bad)
theorem acv (x0 x1:AV):CC Tryz.prog lI [x0,x1] (abU x0 x1):=cc Tryz.func84 [0,1,5] (fun _=>[])
def abZ (x0 x1:AV):Prog:=.loop [x1,.int .i64 0] (fun a=>Ln 0 x0 fun b=>Bn .lss (g a 1) b fun b=>.ite b (Ix 4 x0 (g a 1) fun b=>.op (.fad 0 b) fun b=>.op (.ld1 b) fun c=>Cl gB [g a 0] fun d=>.chk (.ld1 b) c (.op (.bin 1 .neq c d) fun b=>.ite b (.fin [.val (.int .i64 (-1))]) (Bn .add (g a 0) (.int .i64 1) fun b=>Ix 4 x0 (g a 1) fun c=>Lg 1 c fun c=>Bn .rem b (.int .i64 3) fun d=>Bn .eql d (.int .i64 0) fun d=>.op (.bin 2 .neq c d) fun c=>.ite c (.fin [.val (.int .i64 (-1))]) (Bn .add b (.int .i64 1) fun b=>Ix 4 x0 (g a 1) fun c=>Lg 2 c fun c=>Bn .neq c b fun c=>.ite c (.fin [.val (.int .i64 (-1))]) (Bn .add b (.int .i64 1) fun b=>Ix 4 x0 (g a 1) fun c=>.op (.fad 3 c) fun c=>.op (.ld1 c) fun d=>Cl gB [b] fun e=>.chk (.ld1 c) d (.op (.bin 1 .neq d e) fun c=>.ite c (.fin [.val (.int .i64 (-1))]) (Bn .add b (.int .i64 1) fun b=>Bn .add (g a 1) (.int .i64 1) fun a=>.leaf 0 [b,a]))))))) (.leaf 2 [g a 0,g a 1])) fun a b=>aA a 1 (.leaf 1 b) (aA a 2 (.fin [.val (g b 0)]) .bad)
theorem acD (x0 x1:AV):CC Tryz.prog lJ [x0,x1] (abZ x0 x1):=cc Tryz.func149 [0,1,5] (fun r=>if r=4 then[(0,[]),(1,[]),(2,[]),(3,[]),(4,[]),(5,[]),(6,[4]),(7,[])] else if r=13 then[(0,[]),(1,[]),(2,[]),(3,[]),(4,[]),(5,[]),(6,[4]),(7,[])] else[])
end
theorem zP:jU Attr Tryz.prog lI:=fun xs v F n m h r o h0 h1=>acv _ _ (Prog.iy _ (kH (w:=4) rfl (ss:=[([0],.s gB),([1],.b),([2],.i),([3],.s gB)]) (fun x _=>by simp[MOk,Fld.f,Ao]) r o h0 h1) fun _ _ _ x=>x)
theorem zQ:jV Attr Tryz.prog lJ:=fun xs v F m h r h0 h1=>reader (acD _ _) (by simp only[old]) (kI (w:=4) rfl (ss:=[([0],.s gB),([1],.b),([2],.i),([3],.s gB)]) (fun x _=>by simp[HOk,Fld.f,Ao]) r h0 h1)
end Go.Proofs.YtekfdoknfcedpaaGreat
end
section
set_option linter.unusedSimpArgs false
set_option linter.unusedVariables false
set_option maxHeartbeats 1000000
namespace Go.Proofs.YtekfdoknfcedpaaGreat
open Go Go.Ab
section
def abR (x0 x1:AV):Prog:=.loop [x1,.int .i64 0] (fun a=>Ln 0 x0 fun b=>Bn .lss (g a 1) b fun b=>.ite b (Ix 6 x0 (g a 1) fun b=>Sg 0 b (g a 0) fun _=>Bn .add (g a 0) (.int .i64 1) fun b=>Ix 6 x0 (g a 1) fun c=>Sg 1 c b fun _=>Bn .add b (.int .i64 1) fun b=>Ix 6 x0 (g a 1) fun c=>Sg 2 c b fun _=>Bn .add b (.int .i64 1) fun b=>Ix 6 x0 (g a 1) fun c=>Sg 3 c b fun _=>Bn .add b (.int .i64 1) fun b=>Bn .rem b (.int .i64 3) fun c=>Bn .eql c (.int .i64 0) fun c=>Ix 6 x0 (g a 1) fun d=>Sg 4 d c fun _=>Bn .add b (.int .i64 1) fun b=>Ix 6 x0 (g a 1) fun c=>Lg 5 c fun c=>Cl lI [c,b] fun b=>Bn .add (g a 1) (.int .i64 1) fun a=>.leaf 0 [b,a]) (.leaf 2 [g a 0,g a 1])) fun a b=>aA a 1 (.leaf 1 b) (aA a 2 (.fin [.val (g b 0)]) .bad)
theorem acr (x0 x1:AV):CC Tryz.prog zY [x0,x1] (abR x0 x1):=cc Tryz.func227 [0,1,5] (fun _=>[])
def abW (x0 x1:AV):Prog:=.loop [x1,.int .i64 0] (fun a=>Ln 0 x0 fun b=>Bn .lss (g a 1) b fun b=>.ite b (Ix 6 x0 (g a 1) fun b=>Lg 0 b fun b=>Bn .neq b (g a 0) fun b=>.ite b (.fin [.val (.int .i64 (-1))]) (Bn .add (g a 0) (.int .i64 1) fun b=>Ix 6 x0 (g a 1) fun c=>Lg 1 c fun c=>Bn .neq c b fun c=>.ite c (.fin [.val (.int .i64 (-1))]) (Bn .add b (.int .i64 1) fun b=>Ix 6 x0 (g a 1) fun c=>Lg 2 c fun c=>Bn .neq c b fun c=>.ite c (.fin [.val (.int .i64 (-1))]) (Bn .add b (.int .i64 1) fun b=>Ix 6 x0 (g a 1) fun c=>Lg 3 c fun c=>Bn .neq c b fun c=>.ite c (.fin [.val (.int .i64 (-1))]) (Bn .add b (.int .i64 1) fun b=>Ix 6 x0 (g a 1) fun c=>Lg 4 c fun c=>Bn .rem b (.int .i64 3) fun d=>Bn .eql d (.int .i64 0) fun d=>.op (.bin 2 .neq c d) fun c=>.ite c (.fin [.val (.int .i64 (-1))]) (Bn .add b (.int .i64 1) fun b=>Ix 6 x0 (g a 1) fun c=>Lg 5 c fun c=>Cl lJ [c,b] fun b=>Bn .lss b (.int .i64 0) fun c=>.ite c (.fin [.val (.int .i64 (-1))]) (Bn .add (g a 1) (.int .i64 1) fun a=>.leaf 0 [b,a]))))))) (.leaf 2 [g a 0,g a 1])) fun a b=>aA a 1 (.leaf 1 b) (aA a 2 (.fin [.val (g b 0)]) .bad)
theorem acA (x0 x1:AV):CC Tryz.prog z8 [x0,x1] (abW x0 x1):=cc Tryz.func229 [0,1,5] (fun _=>[])
end
theorem abm:jU Span Tryz.prog zY:=fun xs v F n m h r o h0 h1=>acr _ _ (Prog.iy _ (kH (w:=6) rfl (ss:=[([0],.i),([1],.i),([2],.i),([3],.i),([4],.b),([5],.l lI)]) (fun x _=>by simp[MOk,Fld.f,zP.x]) r o h0 h1) fun _ _ _ x=>x)
theorem abq:jV Span Tryz.prog z8:=fun xs v F m h r h0 h1=>reader (acA _ _) (by simp only[old]) (kI (w:=6) rfl (ss:=[([0],.i),([1],.i),([2],.i),([3],.i),([4],.b),([5],.l lJ)]) (fun x _=>by simp[HOk,Fld.f,zQ.x]) r h0 h1)
end Go.Proofs.YtekfdoknfcedpaaGreat
end
section
set_option linter.unusedSimpArgs false
set_option linter.unusedVariables false
set_option maxHeartbeats 1000000
namespace Go.Proofs.YtekfdoknfcedpaaGreat
open Go Go.Ab
section
def aaN (x0 x1:AV):Prog:=.loop [x1,.int .i64 0] (fun a=>Ln 0 x0 fun b=>Bn .lss (g a 1) b fun b=>.ite b (Ix 4 x0 (g a 1) fun b=>Sg 0 b (g a 0) fun _=>Bn .add (g a 0) (.int .i64 1) fun b=>Ix 4 x0 (g a 1) fun c=>Sg 1 c b fun _=>Bn .add b (.int .i64 1) fun b=>Ix 4 x0 (g a 1) fun c=>Sg 2 c b fun _=>Bn .add b (.int .i64 1) fun b=>Ix 4 x0 (g a 1) fun c=>Lg 3 c fun c=>Cl zY [c,b] fun b=>Bn .add (g a 1) (.int .i64 1) fun a=>.leaf 0 [b,a]) (.leaf 2 [g a 0,g a 1])) fun a b=>aA a 1 (.leaf 1 b) (aA a 2 (.fin [.val (g b 0)]) .bad)
theorem aaV (x0 x1:AV):CC Tryz.prog zL [x0,x1] (aaN x0 x1):=cc Tryz.func144 [0,1,5] (fun _=>[])
def aaP (x0 x1:AV):Prog:=.loop [x1,.int .i64 0] (fun a=>Ln 0 x0 fun b=>Bn .lss (g a 1) b fun b=>.ite b (Ix 4 x0 (g a 1) fun b=>Lg 0 b fun b=>Bn .neq b (g a 0) fun b=>.ite b (.fin [.val (.int .i64 (-1))]) (Bn .add (g a 0) (.int .i64 1) fun b=>Ix 4 x0 (g a 1) fun c=>Lg 1 c fun c=>Bn .neq c b fun c=>.ite c (.fin [.val (.int .i64 (-1))]) (Bn .add b (.int .i64 1) fun b=>Ix 4 x0 (g a 1) fun c=>Lg 2 c fun c=>Bn .neq c b fun c=>.ite c (.fin [.val (.int .i64 (-1))]) (Bn .add b (.int .i64 1) fun b=>Ix 4 x0 (g a 1) fun c=>Lg 3 c fun c=>Cl z8 [c,b] fun b=>Bn .lss b (.int .i64 0) fun c=>.ite c (.fin [.val (.int .i64 (-1))]) (Bn .add (g a 1) (.int .i64 1) fun a=>.leaf 0 [b,a]))))) (.leaf 2 [g a 0,g a 1])) fun a b=>aA a 1 (.leaf 1 b) (aA a 2 (.fin [.val (g b 0)]) .bad)
theorem aaX (x0 x1:AV):CC Tryz.prog zM [x0,x1] (aaP x0 x1):=cc Tryz.func147 [0,1,5] (fun _=>[])
end
theorem aax:jU Trail Tryz.prog zL:=fun xs v F n m h r o h0 h1=>aaV _ _ (Prog.iy _ (kH (w:=4) rfl (ss:=[([0],.i),([1],.i),([2],.i),([3],.l zY)]) (fun x _=>by simp[MOk,Fld.f,abm.x]) r o h0 h1) fun _ _ _ x=>x)
theorem aay:jV Trail Tryz.prog zM:=fun xs v F m h r h0 h1=>reader (aaX _ _) (by simp only[old]) (kI (w:=4) rfl (ss:=[([0],.i),([1],.i),([2],.i),([3],.l z8)]) (fun x _=>by simp[HOk,Fld.f,abq.x]) r h0 h1)
end Go.Proofs.YtekfdoknfcedpaaGreat
end
section
set_option linter.unusedSimpArgs false
set_option linter.unusedVariables false
set_option maxHeartbeats 1000000
namespace Go.Proofs.YtekfdoknfcedpaaGreat
open Go Go.Ab
section
def aai (x0 x1:AV):Prog:=.loop [x1,.int .i64 0] (fun a=>Ln 0 x0 fun b=>Bn .lss (g a 1) b fun b=>.ite b (Ix 2 x0 (g a 1) fun b=>Sg 0 b (g a 0) fun _=>Bn .add (g a 0) (.int .i64 1) fun b=>Ix 2 x0 (g a 1) fun c=>Lg 1 c fun c=>Cl zL [c,b] fun b=>Bn .add (g a 1) (.int .i64 1) fun a=>.leaf 0 [b,a]) (.leaf 2 [g a 0,g a 1])) fun a b=>aA a 1 (.leaf 1 b) (aA a 2 (.fin [.val (g b 0)]) .bad)
theorem aao (x0 x1:AV):CC Tryz.prog GU [x0,x1] (aai x0 x1):=cc Tryz.func58 [0,1,5] (fun _=>[])
def aak (x0 x1:AV):Prog:=.loop [x1,.int .i64 0] (fun a=>Ln 0 x0 fun b=>Bn .lss (g a 1) b fun b=>.ite b (Ix 2 x0 (g a 1) fun b=>Lg 0 b fun b=>Bn .neq b (g a 0) fun b=>.ite b (.fin [.val (.int .i64 (-1))]) (Bn .add (g a 0) (.int .i64 1) fun b=>Ix 2 x0 (g a 1) fun c=>Lg 1 c fun c=>Cl zM [c,b] fun b=>Bn .lss b (.int .i64 0) fun c=>.ite c (.fin [.val (.int .i64 (-1))]) (Bn .add (g a 1) (.int .i64 1) fun a=>.leaf 0 [b,a]))) (.leaf 2 [g a 0,g a 1])) fun a b=>aA a 1 (.leaf 1 b) (aA a 2 (.fin [.val (g b 0)]) .bad)
theorem aaq (x0 x1:AV):CC Tryz.prog GV [x0,x1] (aak x0 x1):=cc Tryz.func66 [0,1,5] (fun _=>[])
end
theorem aac:jU aU Tryz.prog GU:=fun xs v F n m h r o h0 h1=>aao _ _ (Prog.iy _ (kH (w:=2) rfl (ss:=[([0],.i),([1],.l zL)]) (fun x _=>by simp[MOk,Fld.f,aax.x]) r o h0 h1) fun _ _ _ x=>x)
theorem aad:jV aU Tryz.prog GV:=fun xs v F m h r h0 h1=>reader (aaq _ _) (by simp only[old]) (kI (w:=2) rfl (ss:=[([0],.i),([1],.l zM)]) (fun x _=>by simp[HOk,Fld.f,aay.x]) r h0 h1)
end Go.Proofs.YtekfdoknfcedpaaGreat
end
section
set_option linter.unusedSimpArgs false
set_option linter.unusedVariables false
set_option maxHeartbeats 1000000
namespace Go.Proofs.YtekfdoknfcedpaaGreat
open Go Go.Ab
section
def abS (x0 x1:AV):Prog:=.loop [x1,.int .i64 0] (fun a=>Ln 0 x0 fun b=>Bn .lss (g a 1) b fun b=>.ite b (Ix 7 x0 (g a 1) fun b=>Sg 0 b (g a 0) fun _=>Bn .add (g a 0) (.int .i64 1) fun b=>Ix 7 x0 (g a 1) fun c=>.op (.fad 1 c) fun c=>Sg 0 c b fun _=>Bn .add b (.int .i64 1) fun b=>Ix 7 x0 (g a 1) fun c=>.op (.fad 1 c) fun c=>Sg 1 c b fun _=>Bn .add b (.int .i64 1) fun b=>Ix 7 x0 (g a 1) fun c=>.op (.fad 1 c) fun c=>Sg 2 c b fun _=>Bn .add b (.int .i64 1) fun b=>Ix 7 x0 (g a 1) fun c=>.op (.fad 1 c) fun c=>Sg 3 c b fun _=>Bn .add b (.int .i64 1) fun b=>Bn .rem b (.int .i64 3) fun c=>Bn .eql c (.int .i64 0) fun c=>Ix 7 x0 (g a 1) fun d=>.op (.fad 1 d) fun d=>Sg 4 d c fun _=>Bn .add b (.int .i64 1) fun b=>Ix 7 x0 (g a 1) fun c=>.op (.fad 1 c) fun c=>Lg 5 c fun c=>Cl lI [c,b] fun b=>Bn .add (g a 1) (.int .i64 1) fun a=>.leaf 0 [b,a]) (.leaf 2 [g a 0,g a 1])) fun a b=>aA a 1 (.leaf 1 b) (aA a 2 (.fin [.val (g b 0)]) .bad)
theorem acs (x0 x1:AV):CC Tryz.prog sZ [x0,x1] (abS x0 x1):=cc Tryz.func62 [0,1,5] (fun _=>[])
def abX (x0 x1:AV):Prog:=.loop [x1,.int .i64 0] (fun a=>Ln 0 x0 fun b=>Bn .lss (g a 1) b fun b=>.ite b (Ix 7 x0 (g a 1) fun b=>Lg 0 b fun b=>Bn .neq b (g a 0) fun b=>.ite b (.fin [.val (.int .i64 (-1))]) (Bn .add (g a 0) (.int .i64 1) fun b=>Ix 7 x0 (g a 1) fun c=>.op (.fad 1 c) fun c=>Lg 0 c fun c=>Bn .neq c b fun c=>.ite c (.fin [.val (.int .i64 (-1))]) (Bn .add b (.int .i64 1) fun b=>Ix 7 x0 (g a 1) fun c=>.op (.fad 1 c) fun c=>Lg 1 c fun c=>Bn .neq c b fun c=>.ite c (.fin [.val (.int .i64 (-1))]) (Bn .add b (.int .i64 1) fun b=>Ix 7 x0 (g a 1) fun c=>.op (.fad 1 c) fun c=>Lg 2 c fun c=>Bn .neq c b fun c=>.ite c (.fin [.val (.int .i64 (-1))]) (Bn .add b (.int .i64 1) fun b=>Ix 7 x0 (g a 1) fun c=>.op (.fad 1 c) fun c=>Lg 3 c fun c=>Bn .neq c b fun c=>.ite c (.fin [.val (.int .i64 (-1))]) (Bn .add b (.int .i64 1) fun b=>Ix 7 x0 (g a 1) fun c=>.op (.fad 1 c) fun c=>Lg 4 c fun c=>Bn .rem b (.int .i64 3) fun d=>Bn .eql d (.int .i64 0) fun d=>.op (.bin 2 .neq c d) fun c=>.ite c (.fin [.val (.int .i64 (-1))]) (Bn .add b (.int .i64 1) fun b=>Ix 7 x0 (g a 1) fun c=>.op (.fad 1 c) fun c=>Lg 5 c fun c=>Cl lJ [c,b] fun b=>Bn .lss b (.int .i64 0) fun c=>.ite c (.fin [.val (.int .i64 (-1))]) (Bn .add (g a 1) (.int .i64 1) fun a=>.leaf 0 [b,a])))))))) (.leaf 2 [g a 0,g a 1])) fun a b=>aA a 1 (.leaf 1 b) (aA a 2 (.fin [.val (g b 0)]) .bad)
theorem acB (x0 x1:AV):CC Tryz.prog tq [x0,x1] (abX x0 x1):=cc Tryz.func70 [0,1,5] (fun _=>[])
end
theorem Hq:jU Itm Tryz.prog sZ:=fun xs v F n m h r o h0 h1=>acs _ _ (Prog.iy _ (kH (w:=7) rfl (ss:=[([0],.i),([1,0],.i),([1,1],.i),([1,2],.i),([1,3],.i),([1,4],.b),([1,5],.l lI)]) (fun x _=>by simp[MOk,Fld.f,zP.x]) r o h0 h1) fun _ _ _ x=>x)
theorem Hr:jV Itm Tryz.prog tq:=fun xs v F m h r h0 h1=>reader (acB _ _) (by simp only[old]) (kI (w:=7) rfl (ss:=[([0],.i),([1,0],.i),([1,1],.i),([1,2],.i),([1,3],.i),([1,4],.b),([1,5],.l lJ)]) (fun x _=>by simp[HOk,Fld.f,zQ.x]) r h0 h1)
end Go.Proofs.YtekfdoknfcedpaaGreat
end
section
set_option linter.unusedSimpArgs false
set_option linter.unusedVariables false
set_option maxHeartbeats 1000000
namespace Go.Proofs.YtekfdoknfcedpaaGreat
open Go Go.Ab
section
def abQ (x0 x1:AV):Prog:=.loop [x1,.int .i64 0] (fun a=>Ln 0 x0 fun b=>Bn .lss (g a 1) b fun b=>.ite b (Ix 12 x0 (g a 1) fun b=>Sg 0 b (g a 0) fun _=>Bn .add (g a 0) (.int .i64 1) fun b=>Ix 12 x0 (g a 1) fun c=>Sg 1 c b fun _=>Bn .add b (.int .i64 1) fun b=>Ix 12 x0 (g a 1) fun c=>.op (.fad 2 c) fun c=>Sg 0 c b fun _=>Bn .add b (.int .i64 1) fun b=>Ix 12 x0 (g a 1) fun c=>.op (.fad 2 c) fun c=>Sg 1 c b fun _=>Bn .add b (.int .i64 1) fun b=>Ix 12 x0 (g a 1) fun c=>.op (.fad 2 c) fun c=>Sg 2 c b fun _=>Bn .add b (.int .i64 1) fun b=>Ix 12 x0 (g a 1) fun c=>.op (.fad 2 c) fun c=>Sg 3 c b fun _=>Bn .add b (.int .i64 1) fun b=>Bn .rem b (.int .i64 3) fun c=>Bn .eql c (.int .i64 0) fun c=>Ix 12 x0 (g a 1) fun d=>.op (.fad 2 d) fun d=>Sg 4 d c fun _=>Bn .add b (.int .i64 1) fun b=>Ix 12 x0 (g a 1) fun c=>.op (.fad 2 c) fun c=>Lg 5 c fun c=>Cl lI [c,b] fun b=>Ix 12 x0 (g a 1) fun c=>Sg 8 c b fun _=>Bn .add b (.int .i64 1) fun b=>Ix 12 x0 (g a 1) fun c=>Sg 9 c b fun _=>Bn .add b (.int .i64 1) fun b=>Ix 12 x0 (g a 1) fun c=>Lg 10 c fun c=>Cl sZ [c,b] fun b=>Ix 12 x0 (g a 1) fun c=>Sg 11 c b fun _=>Bn .add b (.int .i64 1) fun b=>Bn .add (g a 1) (.int .i64 1) fun a=>.leaf 0 [b,a]) (.leaf 2 [g a 0,g a 1])) fun a b=>aA a 1 (.leaf 1 b) (aA a 2 (.fin [.val (g b 0)]) .bad)
theorem acp (x0 x1:AV):CC Tryz.prog HZ [x0,x1] (abQ x0 x1):=cc Tryz.func63 [0,1,5] (fun _=>[])
def abV (x0 x1:AV):Prog:=.loop [x1,.int .i64 0] (fun a=>Ln 0 x0 fun b=>Bn .lss (g a 1) b fun b=>.ite b (Ix 12 x0 (g a 1) fun b=>Lg 0 b fun b=>Bn .neq b (g a 0) fun b=>.ite b (.fin [.val (.int .i64 (-1))]) (Bn .add (g a 0) (.int .i64 1) fun b=>Ix 12 x0 (g a 1) fun c=>Lg 1 c fun c=>Bn .neq c b fun c=>.ite c (.fin [.val (.int .i64 (-1))]) (Bn .add b (.int .i64 1) fun b=>Ix 12 x0 (g a 1) fun c=>.op (.fad 2 c) fun c=>Lg 0 c fun c=>Bn .neq c b fun c=>.ite c (.fin [.val (.int .i64 (-1))]) (Bn .add b (.int .i64 1) fun b=>Ix 12 x0 (g a 1) fun c=>.op (.fad 2 c) fun c=>Lg 1 c fun c=>Bn .neq c b fun c=>.ite c (.fin [.val (.int .i64 (-1))]) (Bn .add b (.int .i64 1) fun b=>Ix 12 x0 (g a 1) fun c=>.op (.fad 2 c) fun c=>Lg 2 c fun c=>Bn .neq c b fun c=>.ite c (.fin [.val (.int .i64 (-1))]) (Bn .add b (.int .i64 1) fun b=>Ix 12 x0 (g a 1) fun c=>.op (.fad 2 c) fun c=>Lg 3 c fun c=>Bn .neq c b fun c=>.ite c (.fin [.val (.int .i64 (-1))]) (Bn .add b (.int .i64 1) fun b=>Ix 12 x0 (g a 1) fun c=>.op (.fad 2 c) fun c=>Lg 4 c fun c=>Bn .rem b (.int .i64 3) fun d=>Bn .eql d (.int .i64 0) fun d=>.op (.bin 2 .neq c d) fun c=>.ite c (.fin [.val (.int .i64 (-1))]) (Bn .add b (.int .i64 1) fun b=>Ix 12 x0 (g a 1) fun c=>.op (.fad 2 c) fun c=>Lg 5 c fun c=>Cl lJ [c,b] fun b=>Bn .lss b (.int .i64 0) fun c=>.ite c (.fin [.val (.int .i64 (-1))]) (Ix 12 x0 (g a 1) fun c=>Lg 8 c fun c=>Bn .neq c b fun c=>.ite c (.fin [.val (.int .i64 (-1))]) (Bn .add b (.int .i64 1) fun b=>Ix 12 x0 (g a 1) fun c=>Lg 9 c fun c=>Bn .neq c b fun c=>.ite c (.fin [.val (.int .i64 (-1))]) (Bn .add b (.int .i64 1) fun b=>Ix 12 x0 (g a 1) fun c=>Lg 10 c fun c=>Cl tq [c,b] fun b=>Bn .lss b (.int .i64 0) fun c=>.ite c (.fin [.val (.int .i64 (-1))]) (Ix 12 x0 (g a 1) fun c=>Lg 11 c fun c=>Bn .neq c b fun c=>.ite c (.fin [.val (.int .i64 (-1))]) (Bn .add b (.int .i64 1) fun b=>Bn .add (g a 1) (.int .i64 1) fun a=>.leaf 0 [b,a]))))))))))))) (.leaf 2 [g a 0,g a 1])) fun a b=>aA a 1 (.leaf 1 b) (aA a 2 (.fin [.val (g b 0)]) .bad)
theorem acz (x0 x1:AV):CC Tryz.prog H8 [x0,x1] (abV x0 x1):=cc Tryz.func71 [0,1,5] (fun _=>[])
end
theorem abl:jU Task Tryz.prog HZ:=fun xs v F n m h r o h0 h1=>acp _ _ (Prog.iy _ (kH (w:=12) rfl (ss:=[([0],.i),([1],.i),([2,0],.i),([2,1],.i),([2,2],.i),([2,3],.i),([2,4],.b),([2,5],.l lI),([8],.i),([9],.i),([10],.l sZ),([11],.i)]) (fun x _=>by simp[MOk,Fld.f,zP.x,Hq.x]) r o h0 h1) fun _ _ _ x=>x)
theorem abp:jV Task Tryz.prog H8:=fun xs v F m h r h0 h1=>reader (acz _ _) (by simp only[old]) (kI (w:=12) rfl (ss:=[([0],.i),([1],.i),([2,0],.i),([2,1],.i),([2,2],.i),([2,3],.i),([2,4],.b),([2,5],.l lJ),([8],.i),([9],.i),([10],.l tq),([11],.i)]) (fun x _=>by simp[HOk,Fld.f,zQ.x,Hr.x]) r h0 h1)
end Go.Proofs.YtekfdoknfcedpaaGreat
end
section
set_option linter.unusedSimpArgs false
set_option linter.unusedVariables false
set_option maxHeartbeats 1000000
namespace Go.Proofs.YtekfdoknfcedpaaGreat
open Go Go.Ab
section
def abT (x0 x1:AV):Prog:=.loop [x1,.int .i64 0] (fun a=>Ln 0 x0 fun b=>Bn .lss (g a 1) b fun b=>.ite b (Ix 20 x0 (g a 1) fun b=>Sg 0 b (g a 0) fun _=>Bn .add (g a 0) (.int .i64 1) fun b=>Ix 20 x0 (g a 1) fun c=>Sg 1 c b fun _=>Bn .add b (.int .i64 1) fun b=>Ix 20 x0 (g a 1) fun c=>.op (.fad 2 c) fun c=>Sg 0 c b fun _=>Bn .add b (.int .i64 1) fun b=>Ix 20 x0 (g a 1) fun c=>.op (.fad 2 c) fun c=>Sg 1 c b fun _=>Bn .add b (.int .i64 1) fun b=>Ix 20 x0 (g a 1) fun c=>.op (.fad 2 c) fun c=>Sg 2 c b fun _=>Bn .add b (.int .i64 1) fun b=>Ix 20 x0 (g a 1) fun c=>.op (.fad 2 c) fun c=>Sg 3 c b fun _=>Bn .add b (.int .i64 1) fun b=>Bn .rem b (.int .i64 3) fun c=>Bn .eql c (.int .i64 0) fun c=>Ix 20 x0 (g a 1) fun d=>.op (.fad 2 d) fun d=>Sg 4 d c fun _=>Bn .add b (.int .i64 1) fun b=>Ix 20 x0 (g a 1) fun c=>.op (.fad 2 c) fun c=>Lg 5 c fun c=>Cl lI [c,b] fun b=>Ix 20 x0 (g a 1) fun c=>Sg 8 c b fun _=>Bn .add b (.int .i64 1) fun b=>Ix 20 x0 (g a 1) fun c=>Sg 9 c b fun _=>Bn .add b (.int .i64 1) fun b=>Ix 20 x0 (g a 1) fun c=>Sg 10 c b fun _=>Bn .add b (.int .i64 1) fun b=>Bn .rem b (.int .i64 3) fun c=>Bn .eql c (.int .i64 0) fun c=>Ix 20 x0 (g a 1) fun d=>Sg 11 d c fun _=>Bn .add b (.int .i64 1) fun b=>Bn .rem b (.int .i64 3) fun c=>Bn .eql c (.int .i64 0) fun c=>Ix 20 x0 (g a 1) fun d=>Sg 12 d c fun _=>Bn .add b (.int .i64 1) fun b=>Ix 20 x0 (g a 1) fun c=>Sg 13 c b fun _=>Bn .add b (.int .i64 1) fun b=>Ix 20 x0 (g a 1) fun c=>Sg 14 c b fun _=>Bn .add b (.int .i64 1) fun b=>Ix 20 x0 (g a 1) fun c=>Sg 15 c b fun _=>Bn .add b (.int .i64 1) fun b=>Ix 20 x0 (g a 1) fun c=>Sg 16 c b fun _=>Bn .add b (.int .i64 1) fun b=>Ix 20 x0 (g a 1) fun c=>Sg 17 c b fun _=>Bn .add b (.int .i64 1) fun b=>Ix 20 x0 (g a 1) fun c=>Sg 18 c b fun _=>Bn .add b (.int .i64 1) fun b=>Ix 20 x0 (g a 1) fun c=>Sg 19 c b fun _=>Bn .add b (.int .i64 1) fun b=>Bn .add (g a 1) (.int .i64 1) fun a=>.leaf 0 [b,a]) (.leaf 2 [g a 0,g a 1])) fun a b=>aA a 1 (.leaf 1 b) (aA a 2 (.fin [.val (g b 0)]) .bad)
theorem acu (x0 x1:AV):CC Tryz.prog H6 [x0,x1] (abT x0 x1):=cc Tryz.func64 [0,1,5] (fun _=>[])
def abY (x0 x1:AV):Prog:=.loop [x1,.int .i64 0] (fun a=>Ln 0 x0 fun b=>Bn .lss (g a 1) b fun b=>.ite b (Ix 20 x0 (g a 1) fun b=>Lg 0 b fun b=>Bn .neq b (g a 0) fun b=>.ite b (.fin [.val (.int .i64 (-1))]) (Bn .add (g a 0) (.int .i64 1) fun b=>Ix 20 x0 (g a 1) fun c=>Lg 1 c fun c=>Bn .neq c b fun c=>.ite c (.fin [.val (.int .i64 (-1))]) (Bn .add b (.int .i64 1) fun b=>Ix 20 x0 (g a 1) fun c=>.op (.fad 2 c) fun c=>Lg 0 c fun c=>Bn .neq c b fun c=>.ite c (.fin [.val (.int .i64 (-1))]) (Bn .add b (.int .i64 1) fun b=>Ix 20 x0 (g a 1) fun c=>.op (.fad 2 c) fun c=>Lg 1 c fun c=>Bn .neq c b fun c=>.ite c (.fin [.val (.int .i64 (-1))]) (Bn .add b (.int .i64 1) fun b=>Ix 20 x0 (g a 1) fun c=>.op (.fad 2 c) fun c=>Lg 2 c fun c=>Bn .neq c b fun c=>.ite c (.fin [.val (.int .i64 (-1))]) (Bn .add b (.int .i64 1) fun b=>Ix 20 x0 (g a 1) fun c=>.op (.fad 2 c) fun c=>Lg 3 c fun c=>Bn .neq c b fun c=>.ite c (.fin [.val (.int .i64 (-1))]) (Bn .add b (.int .i64 1) fun b=>Ix 20 x0 (g a 1) fun c=>.op (.fad 2 c) fun c=>Lg 4 c fun c=>Bn .rem b (.int .i64 3) fun d=>Bn .eql d (.int .i64 0) fun d=>.op (.bin 2 .neq c d) fun c=>.ite c (.fin [.val (.int .i64 (-1))]) (Bn .add b (.int .i64 1) fun b=>Ix 20 x0 (g a 1) fun c=>.op (.fad 2 c) fun c=>Lg 5 c fun c=>Cl lJ [c,b] fun b=>Bn .lss b (.int .i64 0) fun c=>.ite c (.fin [.val (.int .i64 (-1))]) (Ix 20 x0 (g a 1) fun c=>Lg 8 c fun c=>Bn .neq c b fun c=>.ite c (.fin [.val (.int .i64 (-1))]) (Bn .add b (.int .i64 1) fun b=>Ix 20 x0 (g a 1) fun c=>Lg 9 c fun c=>Bn .neq c b fun c=>.ite c (.fin [.val (.int .i64 (-1))]) (Bn .add b (.int .i64 1) fun b=>Ix 20 x0 (g a 1) fun c=>Lg 10 c fun c=>Bn .neq c b fun c=>.ite c (.fin [.val (.int .i64 (-1))]) (Bn .add b (.int .i64 1) fun b=>Ix 20 x0 (g a 1) fun c=>Lg 11 c fun c=>Bn .rem b (.int .i64 3) fun d=>Bn .eql d (.int .i64 0) fun d=>.op (.bin 2 .neq c d) fun c=>.ite c (.fin [.val (.int .i64 (-1))]) (Bn .add b (.int .i64 1) fun b=>Ix 20 x0 (g a 1) fun c=>Lg 12 c fun c=>Bn .rem b (.int .i64 3) fun d=>Bn .eql d (.int .i64 0) fun d=>.op (.bin 2 .neq c d) fun c=>.ite c (.fin [.val (.int .i64 (-1))]) (Bn .add b (.int .i64 1) fun b=>Ix 20 x0 (g a 1) fun c=>Lg 13 c fun c=>Bn .neq c b fun c=>.ite c (.fin [.val (.int .i64 (-1))]) (Bn .add b (.int .i64 1) fun b=>Ix 20 x0 (g a 1) fun c=>Lg 14 c fun c=>Bn .neq c b fun c=>.ite c (.fin [.val (.int .i64 (-1))]) (Bn .add b (.int .i64 1) fun b=>Ix 20 x0 (g a 1) fun c=>Lg 15 c fun c=>Bn .neq c b fun c=>.ite c (.fin [.val (.int .i64 (-1))]) (Bn .add b (.int .i64 1) fun b=>Ix 20 x0 (g a 1) fun c=>Lg 16 c fun c=>Bn .neq c b fun c=>.ite c (.fin [.val (.int .i64 (-1))]) (Bn .add b (.int .i64 1) fun b=>Ix 20 x0 (g a 1) fun c=>Lg 17 c fun c=>Bn .neq c b fun c=>.ite c (.fin [.val (.int .i64 (-1))]) (Bn .add b (.int .i64 1) fun b=>Ix 20 x0 (g a 1) fun c=>Lg 18 c fun c=>Bn .neq c b fun c=>.ite c (.fin [.val (.int .i64 (-1))]) (Bn .add b (.int .i64 1) fun b=>Ix 20 x0 (g a 1) fun c=>Lg 19 c fun c=>Bn .neq c b fun c=>.ite c (.fin [.val (.int .i64 (-1))]) (Bn .add b (.int .i64 1) fun b=>Bn .add (g a 1) (.int .i64 1) fun a=>.leaf 0 [b,a]))))))))))))))))))))) (.leaf 2 [g a 0,g a 1])) fun a b=>aA a 1 (.leaf 1 b) (aA a 2 (.fin [.val (g b 0)]) .bad)
theorem acC (x0 x1:AV):CC Tryz.prog H9 [x0,x1] (abY x0 x1):=cc Tryz.func72 [0,1,5] (fun _=>[])
end
theorem abn:jU bN Tryz.prog H6:=fun xs v F n m h r o h0 h1=>acu _ _ (Prog.iy _ (kH (w:=20) rfl (ss:=[([0],.i),([1],.i),([2,0],.i),([2,1],.i),([2,2],.i),([2,3],.i),([2,4],.b),([2,5],.l lI),([8],.i),([9],.i),([10],.i),([11],.b),([12],.b),([13],.i),([14],.i),([15],.i),([16],.i),([17],.i),([18],.i),([19],.i)]) (fun x _=>by simp[MOk,Fld.f,zP.x]) r o h0 h1) fun _ _ _ x=>x)
theorem abr:jV bN Tryz.prog H9:=fun xs v F m h r h0 h1=>reader (acC _ _) (by simp only[old]) (kI (w:=20) rfl (ss:=[([0],.i),([1],.i),([2,0],.i),([2,1],.i),([2,2],.i),([2,3],.i),([2,4],.b),([2,5],.l lJ),([8],.i),([9],.i),([10],.i),([11],.b),([12],.b),([13],.i),([14],.i),([15],.i),([16],.i),([17],.i),([18],.i),([19],.i)]) (fun x _=>by simp[HOk,Fld.f,zQ.x]) r h0 h1)
end Go.Proofs.YtekfdoknfcedpaaGreat
end
section
set_option linter.unusedSimpArgs false
set_option linter.unusedVariables false
set_option maxHeartbeats 1000000
namespace Go.Proofs.YtekfdoknfcedpaaGreat
open Go Go.Ab
section
def aaO (x0 x1:AV):Prog:=.loop [x1,.int .i64 0] (fun a=>Ln 0 x0 fun b=>Bn .lss (g a 1) b fun b=>.ite b (Ix 3 x0 (g a 1) fun b=>Sg 0 b (g a 0) fun _=>Bn .add (g a 0) (.int .i64 1) fun b=>Ix 3 x0 (g a 1) fun c=>Sg 1 c b fun _=>Bn .add b (.int .i64 1) fun b=>Ix 3 x0 (g a 1) fun c=>Sg 2 c b fun _=>Bn .add b (.int .i64 1) fun b=>Bn .add (g a 1) (.int .i64 1) fun a=>.leaf 0 [b,a]) (.leaf 2 [g a 0,g a 1])) fun a b=>aA a 1 (.leaf 1 b) (aA a 2 (.fin [.val (g b 0)]) .bad)
theorem aaW (x0 x1:AV):CC Tryz.prog sS [x0,x1] (aaO x0 x1):=cc Tryz.func61 [0,1,5] (fun _=>[])
def aaQ (x0 x1:AV):Prog:=.loop [x1,.int .i64 0] (fun a=>Ln 0 x0 fun b=>Bn .lss (g a 1) b fun b=>.ite b (Ix 3 x0 (g a 1) fun b=>Lg 0 b fun b=>Bn .neq b (g a 0) fun b=>.ite b (.fin [.val (.int .i64 (-1))]) (Bn .add (g a 0) (.int .i64 1) fun b=>Ix 3 x0 (g a 1) fun c=>Lg 1 c fun c=>Bn .neq c b fun c=>.ite c (.fin [.val (.int .i64 (-1))]) (Bn .add b (.int .i64 1) fun b=>Ix 3 x0 (g a 1) fun c=>Lg 2 c fun c=>Bn .neq c b fun c=>.ite c (.fin [.val (.int .i64 (-1))]) (Bn .add b (.int .i64 1) fun b=>Bn .add (g a 1) (.int .i64 1) fun a=>.leaf 0 [b,a])))) (.leaf 2 [g a 0,g a 1])) fun a b=>aA a 1 (.leaf 1 b) (aA a 2 (.fin [.val (g b 0)]) .bad)
theorem aaY (x0 x1:AV):CC Tryz.prog sU [x0,x1] (aaQ x0 x1):=cc Tryz.func69 [0,1,5] (fun _=>[])
end
theorem GZ:jU Ab.Timer Tryz.prog sS:=fun xs v F n m h r o h0 h1=>aaW _ _ (Prog.iy _ (kH (w:=3) rfl (ss:=[([0],.i),([1],.i),([2],.i)]) (fun x _=>by simp[MOk,Fld.f]) r o h0 h1) fun _ _ _ x=>x)
theorem He:jV Ab.Timer Tryz.prog sU:=fun xs v F m h r h0 h1=>reader (aaY _ _) (by simp only[old]) (kI (w:=3) rfl (ss:=[([0],.i),([1],.i),([2],.i)]) (fun x _=>by simp[HOk,Fld.f]) r h0 h1)
end Go.Proofs.YtekfdoknfcedpaaGreat
end
section
set_option linter.unusedSimpArgs false
set_option linter.unusedVariables false
set_option maxHeartbeats 1000000
namespace Go.Proofs.YtekfdoknfcedpaaGreat
open Go Go.Ab
section
def Z0 (x0 x1:AV):Prog:=.loop [x1,.int .i64 0] (fun a=>Ln 0 x0 fun b=>Bn .lss (g a 1) b fun b=>.ite b (Ix 3 x0 (g a 1) fun b=>Sg 0 b (g a 0) fun _=>Bn .add (g a 0) (.int .i64 1) fun b=>Ix 3 x0 (g a 1) fun c=>Sg 1 c b fun _=>Bn .add b (.int .i64 1) fun b=>Bn .rem b (.int .i64 3) fun c=>Bn .eql c (.int .i64 0) fun c=>Ix 3 x0 (g a 1) fun d=>Sg 2 d c fun _=>Bn .add b (.int .i64 1) fun b=>Bn .add (g a 1) (.int .i64 1) fun a=>.leaf 0 [b,a]) (.leaf 2 [g a 0,g a 1])) fun a b=>aA a 1 (.leaf 1 b) (aA a 2 (.fin [.val (g b 0)]) .bad)
theorem Z6 (x0 x1:AV):CC Tryz.prog GN [x0,x1] (Z0 x0 x1):=cc Tryz.func59 [0,1,5] (fun _=>[])
def Z4 (x0 x1:AV):Prog:=.loop [x1,.int .i64 0] (fun a=>Ln 0 x0 fun b=>Bn .lss (g a 1) b fun b=>.ite b (Ix 3 x0 (g a 1) fun b=>Lg 0 b fun b=>Bn .neq b (g a 0) fun b=>.ite b (.fin [.val (.int .i64 (-1))]) (Bn .add (g a 0) (.int .i64 1) fun b=>Ix 3 x0 (g a 1) fun c=>Lg 1 c fun c=>Bn .neq c b fun c=>.ite c (.fin [.val (.int .i64 (-1))]) (Bn .add b (.int .i64 1) fun b=>Ix 3 x0 (g a 1) fun c=>Lg 2 c fun c=>Bn .rem b (.int .i64 3) fun d=>Bn .eql d (.int .i64 0) fun d=>.op (.bin 2 .neq c d) fun c=>.ite c (.fin [.val (.int .i64 (-1))]) (Bn .add b (.int .i64 1) fun b=>Bn .add (g a 1) (.int .i64 1) fun a=>.leaf 0 [b,a])))) (.leaf 2 [g a 0,g a 1])) fun a b=>aA a 1 (.leaf 1 b) (aA a 2 (.fin [.val (g b 0)]) .bad)
theorem Z7 (x0 x1:AV):CC Tryz.prog GQ [x0,x1] (Z4 x0 x1):=cc Tryz.func67 [0,1,5] (fun _=>[])
end
theorem ZX:jU bM Tryz.prog GN:=fun xs v F n m h r o h0 h1=>Z6 _ _ (Prog.iy _ (kH (w:=3) rfl (ss:=[([0],.i),([1],.i),([2],.b)]) (fun x _=>by simp[MOk,Fld.f]) r o h0 h1) fun _ _ _ x=>x)
theorem ZY:jV bM Tryz.prog GQ:=fun xs v F m h r h0 h1=>reader (Z7 _ _) (by simp only[old]) (kI (w:=3) rfl (ss:=[([0],.i),([1],.i),([2],.b)]) (fun x _=>by simp[HOk,Fld.f]) r h0 h1)
end Go.Proofs.YtekfdoknfcedpaaGreat
end
section
set_option linter.unusedSimpArgs false
set_option linter.unusedVariables false
set_option maxHeartbeats 8000000
namespace Go.Proofs.YtekfdoknfcedpaaGreat
open Go Go.Ab
section
def adz (x0 x1:AV):Prog:=.loop [x1,.int .i64 0] (fun a=>Ln 0 x0 fun b=>Bn .lss (g a 1) b fun b=>.ite b (Ix 5 x0 (g a 1) fun b=>Sg 0 b (g a 0) fun _=>Bn .add (g a 0) (.int .i64 1) fun b=>Ix 5 x0 (g a 1) fun c=>Sg 1 c b fun _=>Bn .add b (.int .i64 1) fun b=>Cl gB [b] fun c=>Ix 5 x0 (g a 1) fun d=>Sg 2 d c fun _=>Bn .add b (.int .i64 1) fun b=>Cl gB [b] fun c=>Ix 5 x0 (g a 1) fun d=>Sg 3 d c fun _=>Bn .add b (.int .i64 1) fun b=>Ix 5 x0 (g a 1) fun c=>Lg 4 c fun c=>Cl nW [c,b] fun b=>Bn .add (g a 1) (.int .i64 1) fun a=>.leaf 0 [b,a]) (.leaf 2 [g a 0,g a 1])) fun a b=>aA a 1 (.leaf 1 b) (aA a 2 (.fin [.val (g b 0)]) .bad)
theorem adW (x0 x1:AV):CC Tryz.prog nW [x0,x1] (adz x0 x1):=cc Tryz.func226 [0,1,5] (fun _=>[])
def adA (x0 x1:AV):Prog:=.loop [x1,.int .i64 0] (fun a=>Ln 0 x0 fun b=>Bn .lss (g a 1) b fun b=>.ite b (Ix 5 x0 (g a 1) fun b=>Lg 0 b fun b=>Bn .neq b (g a 0) fun b=>.ite b (.fin [.val (.int .i64 (-1))]) (Bn .add (g a 0) (.int .i64 1) fun b=>Ix 5 x0 (g a 1) fun c=>Lg 1 c fun c=>Bn .neq c b fun c=>.ite c (.fin [.val (.int .i64 (-1))]) (Bn .add b (.int .i64 1) fun b=>Ix 5 x0 (g a 1) fun c=>.op (.fad 2 c) fun c=>.op (.ld1 c) fun d=>Cl gB [b] fun e=>.chk (.ld1 c) d (.op (.bin 1 .neq d e) fun c=>.ite c (.fin [.val (.int .i64 (-1))]) (Bn .add b (.int .i64 1) fun b=>Ix 5 x0 (g a 1) fun c=>.op (.fad 3 c) fun c=>.op (.ld1 c) fun d=>Cl gB [b] fun e=>.chk (.ld1 c) d (.op (.bin 1 .neq d e) fun c=>.ite c (.fin [.val (.int .i64 (-1))]) (Bn .add b (.int .i64 1) fun b=>Ix 5 x0 (g a 1) fun c=>Lg 4 c fun c=>Cl mJ [c,b] fun b=>Bn .lss b (.int .i64 0) fun c=>.ite c (.fin [.val (.int .i64 (-1))]) (Bn .add (g a 1) (.int .i64 1) fun a=>.leaf 0 [b,a])))))))) (.leaf 2 [g a 0,g a 1])) fun a b=>aA a 1 (.leaf 1 b) (aA a 2 (.fin [.val (g b 0)]) .bad)
theorem adY (x0 x1:AV):CC Tryz.prog mJ [x0,x1] (adA x0 x1):=cc Tryz.func228 [0,1,5] (fun r=>if r=10 then[(0,[]),(1,[]),(2,[]),(3,[]),(4,[]),(5,[]),(6,[4]),(7,[])] else if r=13 then[(0,[]),(1,[]),(2,[]),(3,[]),(4,[]),(5,[]),(6,[4]),(7,[])] else[])
def Ph (x0 x1:AV):Prog:=.op (.box x0) fun a=>Lg 4 a fun a=>Cl nW [a,x1] fun a=>.fin [.val a]
theorem af3 (x0 x1:AV):CC Tryz.prog IY [x0,x1] (Ph x0 x1):=cc Tryz.func143
def Pj (x0 x1:AV):Prog:=.op (.box x0) fun a=>Lg 4 a fun a=>Cl mJ [a,x1] fun a=>Bn .lss a (.int .i64 0) fun b=>.ite b (.fin [.val (.int .i64 (-1))]) (.fin [.val a])
theorem af4 (x0 x1:AV):CC Tryz.prog BI [x0,x1] (Pj x0 x1):=cc Tryz.func146
def NM (x0 x1:AV):Prog:=.op (.box x0) fun a=>.op (.fad 7 a) fun a=>Ld 5 a fun a=>Cl IY [a,x1] fun a=>.fin [.val a]
theorem adX (x0 x1:AV):CC Tryz.prog Iz [x0,x1] (NM x0 x1):=cc Tryz.func57
def NP (x0 x1:AV):Prog:=.op (.box x0) fun a=>.op (.fad 7 a) fun a=>Ld 5 a fun a=>Cl BI [a,x1] fun a=>Bn .lss a (.int .i64 0) fun b=>.ite b (.fin [.val (.int .i64 (-1))]) (.fin [.val a])
theorem adZ (x0 x1:AV):CC Tryz.prog IB [x0,x1] (NP x0 x1):=cc Tryz.func65
def aah (x0 x1:AV):Prog:=.loop [x1,.int .i64 0] (fun a=>Ln 0 x0 fun b=>Bn .lss (g a 1) b fun b=>.ite b (Ix 1 x0 (g a 1) fun b=>.op (.ld1 b) fun b=>Cl sS [b,g a 0] fun b=>Bn .add (g a 1) (.int .i64 1) fun a=>.leaf 0 [b,a]) (.leaf 2 [g a 0,g a 1])) fun a b=>aA a 1 (.leaf 1 b) (aA a 2 (.fin [.val (g b 0)]) .bad)
theorem aan (x0 x1:AV):CC Tryz.prog zG [x0,x1] (aah x0 x1):=cc Tryz.func145 [0,1,5] (fun _=>[])
def aaj (x0 x1:AV):Prog:=.loop [x1,.int .i64 0] (fun a=>Ln 0 x0 fun b=>Bn .lss (g a 1) b fun b=>.ite b (Ix 1 x0 (g a 1) fun b=>.op (.ld1 b) fun b=>Cl sU [b,g a 0] fun b=>Bn .lss b (.int .i64 0) fun c=>.ite c (.fin [.val (.int .i64 (-1))]) (Bn .add (g a 1) (.int .i64 1) fun a=>.leaf 0 [b,a])) (.leaf 2 [g a 0,g a 1])) fun a b=>aA a 1 (.leaf 1 b) (aA a 2 (.fin [.val (g b 0)]) .bad)
theorem aap (x0 x1:AV):CC Tryz.prog zH [x0,x1] (aaj x0 x1):=cc Tryz.func148 [0,1,5] (fun _=>[])
def MV (x0 x1:AV):Prog:=.op (.box x0) fun a=>Lg 1 a fun b=>Cl zG [b,x1] fun b=>Lg 2 a fun c=>Cl zG [c,b] fun b=>Lg 3 a fun a=>Cl sS [a,b] fun a=>.fin [.val a]
theorem aco (x0 x1:AV):CC Tryz.prog HY [x0,x1] (MV x0 x1):=cc Tryz.func60
def MX (x0 x1:AV):Prog:=.op (.box x0) fun a=>Lg 1 a fun b=>Cl zH [b,x1] fun b=>Bn .lss b (.int .i64 0) fun c=>.ite c (.fin [.val (.int .i64 (-1))]) (Lg 2 a fun c=>Cl zH [c,b] fun b=>Bn .lss b (.int .i64 0) fun c=>.ite c (.fin [.val (.int .i64 (-1))]) (Lg 3 a fun a=>Cl sU [a,b] fun a=>Bn .lss a (.int .i64 0) fun b=>.ite b (.fin [.val (.int .i64 (-1))]) (.fin [.val a])))
theorem acy (x0 x1:AV):CC Tryz.prog H7 [x0,x1] (MX x0 x1):=cc Tryz.func68
end
theorem TI (xs:List Pol) (ih:∀ x∈xs,yP Pol Tryz.prog nW x.l):yP Pol Tryz.prog nW xs:=fun v F n m h r o h0 h1=>adW _ _ (Prog.iy _ (kH (w:=5) rfl (ss:=[([0],.i),([1],.i),([2],.s gB),([3],.s gB),([4],.l nW)]) (fun x hx=>by
 have:=ih x hx
 cases x with
 |mk k n s t l=>simp only[MOk,Fld.f,Ao,List.sum_cons,List.sum_nil];simpa[Pol.l] using this) r o h0 h1) fun _ _ _ x=>x)
theorem ade:jU Pol Tryz.prog nW:=fun xs=>TI xs fun x _=>iB (p:=fun x=>yP Pol Tryz.prog nW x.l) (fun x ih=>TI x.l ih) x
theorem TP (xs:List Pol) (ih:∀ x∈xs,yQ Pol Tryz.prog mJ x.l):yQ Pol Tryz.prog mJ xs:=fun v F m h r h0 h1=>reader (adY _ _) (by simp only[old]) (kI (w:=5) rfl (ss:=[([0],.i),([1],.i),([2],.s gB),([3],.s gB),([4],.l mJ)]) (fun x hx=>by
 have:=ih x hx
 cases x with
 |mk k n s t l=>simp only[HOk,Fld.f,Ao,List.sum_cons,List.sum_nil];simpa[Pol.l] using this) r h0 h1)
theorem adg:jV Pol Tryz.prog mJ:=fun xs=>TP xs fun x _=>iB (p:=fun x=>yQ Pol Tryz.prog mJ x.l) (fun x ih=>TP x.l ih) x
theorem aeO {x:Pol} {v:AV} {F:List Nat} {n:Nat} {m:Int} {h:AH} (r:au h v x.l F) (o:Own n h F) (h0:0≤m) (h1:(mks m x.l).2≤1099511627776):cZ Tryz.prog IY [.agg (x.cs v),.int .i64 m] h fun r h'=>r= .int .i64 (mks m x.l).2∧Kp h h' F∧au h' v (mks m x.l).1 F∧Own n h' F:=by
 refine af3 _ _ ?_
 unfold Ph
 (repeat' first|refine vs ?_|fail)
 refine aT (ade _ _ F n _ _ ah (o.ext ((Ext.refl h).push _) r.lt) h0 h1) ?_
 rintro _ h2 ⟨rfl,k2,q2,o2⟩
 (repeat' first|refine vs ?_|fail)
 exact⟨rfl,_,rfl,rfl,(Kp.jm ((Ext.refl h).push _)).trans k2,q2,o2⟩
theorem aeP {x:Pol} {v:AV} {F:List Nat} {m:Int} {h:AH} (r:au h v (mks m x.l).1 F) (h0:0≤m) (h1:(mks m x.l).2≤1099511627776):aN Tryz.prog BI [.agg (x.cs v),.int .i64 m] h (.int .i64 (mks m x.l).2):=by
 refine reader (af4 _ _) (by simp only[old]) ?_
 unfold Pj
 have hup:=cu x.l m
 (repeat' first|refine vs ?_|(refine br ?_ ?_<;>first|exact bo|intro _)|((with_reducible refine aB mJ ?_);refine aQ (adg _ _ _ _ _ ah h0 h1) ?_)|fail)
 all_goals exact pi rfl
theorem adf {x:fF} {v:AV} {F:List Nat} {n:Nat} {m:Int} {h:AH} (r:au h v x.rule.l F) (o:Own n h F) (h0:0≤m) (h1:(mks m x.rule.l).2≤1099511627776):cZ Tryz.prog Iz [.agg (x.cs v),.int .i64 m] h fun r h'=>r= .int .i64 (mks m x.rule.l).2∧Kp h h' F∧au h' v (mks m x.rule.l).1 F∧Own n h' F:=by
 refine adX _ _ ?_
 unfold NM
 (repeat' first|refine vs ?_|fail)
 refine aT (aeO (x:=x.rule) (F:=F) (n:=n) ah (o.ext ((Ext.refl h).push _) r.lt) h0 h1) ?_
 rintro _ h2 ⟨rfl,k2,q2,o2⟩
 (repeat' first|refine vs ?_|fail)
 exact⟨rfl,_,rfl,rfl,(Kp.jm ((Ext.refl h).push _)).trans k2,q2,o2⟩
theorem adh {x:fF} {v:AV} {F:List Nat} {m:Int} {h:AH} (r:au h v (mks m x.rule.l).1 F) (h0:0≤m) (h1:(mks m x.rule.l).2≤1099511627776):aN Tryz.prog IB [.agg (x.cs v),.int .i64 m] h (.int .i64 (mks m x.rule.l).2):=by
 refine reader (adZ _ _) (by simp only[old]) ?_
 unfold NP
 have hup:=cu x.rule.l m
 (repeat' first|refine vs ?_|(refine br ?_ ?_<;>first|exact bo|intro _)|((with_reducible refine aB BI ?_);refine aQ (aeP (x:=x.rule) ah h0 h1) ?_)|fail)
 all_goals exact pi rfl
theorem L9:jU (List Ab.Timer) Tryz.prog zG:=fun xs v F n m h r o h0 h1=>aan _ _ (Prog.iy _ (kH (w:=1) rfl (ss:=[([],.l sS)]) (fun x _=>by simp[MOk,Fld.f,GZ.x]) r o h0 h1) fun _ _ _ x=>x)
theorem Ma:jV (List Ab.Timer) Tryz.prog zH:=fun xs v F m h r h0 h1=>reader (aap _ _) (by simp only[old]) (kI (w:=1) rfl (ss:=[([],.l sU)]) (fun x _=>by simp[HOk,Fld.f,He.x]) r h0 h1)
theorem j3 {n n':Nat} {h h':AH} {F G:List Nat} (o:Own n h F) (lt:∀ b∈F,b < h.n) (k:Kp h h' G) (g:Own n' h' G):Own n h' F:=⟨o.1,fun b hb=>⟨(o.2 b hb).1,by
 by_cases hg:b∈G
 ·exact(g.2 b hg).2
 ·rw[k.2 b (lt b hb) hg];exact(o.2 b hb).2⟩⟩
def iD (m:Int) (x:dN):dN × Int:=(⟨x.now,(mks m x.near).1,(mks (mks m x.near).2 x.far).1,(mks (mks (mks m x.near).2 x.far).2 x.rest).1⟩,(mks (mks (mks m x.near).2 x.far).2 x.rest).2)
theorem JF (m:Int) (x:dN):m≤(iD m x).2:=by
 have:=cu x.near m
 have:=cu x.far (mks m x.near).2
 have:=cu x.rest (mks (mks m x.near).2 x.far).2
 show m≤(mks (mks (mks m x.near).2 x.far).2 x.rest).2
 omega
theorem abk {x:dN} {v0 v1 v2:AV} {F0 F1 F2:List Nat} {n:Nat} {m:Int} {h:AH} (r0:au h v0 x.near F0) (r1:au h v1 x.far F1) (r2:au h v2 x.rest F2) (o:Own n h (F0++(F1++F2))) (h0:0≤m) (h1:(iD m x).2≤1099511627776):
  cZ Tryz.prog HY [.agg (x.cs v0 v1 v2),.int .i64 m] h fun r h'=>r= .int .i64 (iD m x).2∧Kp h h' (F0++(F1++F2))∧au h' v0 (iD m x).1.near F0∧au h' v1 (iD m x).1.far F1∧au h' v2 (iD m x).1.rest F2∧Own n h' (F0++(F1++F2)):=by
 have o0:=eu o
 have o1:=eu (aS o)
 have o2:=aS (aS o)
 have d01:=bY (fC o)
 have d02:=aM (fC o)
 have d12:=fC (aS o)
 have d10:∀ c∈F1,c ∉ F0:=fun c a b=>d01 c b a
 have d20:∀ c∈F2,c ∉ F0:=fun c a b=>d02 c b a
 have d21:∀ c∈F2,c ∉ F1:=fun c a b=>d12 c b a
 have u0:=cu x.near m
 have u1:=cu x.far (mks m x.near).2
 have u2:=cu x.rest (mks (mks m x.near).2 x.far).2
 have hm:(mks (mks (mks m x.near).2 x.far).2 x.rest).2≤1099511627776:=h1
 refine aco _ _ ?_
 unfold MV
 refine kV rfl ?_
 obtain⟨H,hH⟩:∃ H,H=h.push ⟨x.cs v0 v1 v2,0,0⟩:=⟨_,rfl⟩
 rw[←hH]
 have e:Ext h H:=by rw[hH];exact(Ext.refl h).push _
 have b:Bk H h.n (x.cs v0 v1 v2) 0:=by rw[hH];exact iE
 have K:Kp h H (F0++(F1++F2)):=Kp.jm e
 have lt:∀ c∈F0++(F1++F2),c < h.n:=fun c hc=>by
  simp only[List.mem_append] at hc
  rcases hc with g|g|g
  ·exact r0.lt c g
  ·exact r1.lt c g
  ·exact r2.lt c g
 have nb0:h.n ∉ F0:=fun g=>Nat.lt_irrefl _ (lt _ (by simp[g]))
 have nb1:h.n ∉ F1:=fun g=>Nat.lt_irrefl _ (lt _ (by simp[g]))
 have OO:=o.ext e lt
 replace o0:=o0.ext e r0.lt
 replace o1:=o1.ext e r1.lt
 replace o2:=o2.ext e r2.lt
 have LT:∀ c∈F0++(F1++F2),c < H.n:=fun c hc=>Nat.lt_of_lt_of_le (lt c hc) e.1
 replace r0:=r0.ext e
 replace r1:=r1.ext e
 replace r2:=r2.ext e
 clear e hH
 (repeat' first|refine vs ?_|fail)
 refine aT (L9 _ _ F0 n _ _ r0 o0 h0 (by omega)) ?_
 rintro _ h2 ⟨rfl,k1,q0,p0⟩
 replace OO:=j3 OO LT k1 p0
 replace LT:∀ c∈F0++(F1++F2),c < h2.n:=fun c hc=>Nat.lt_of_lt_of_le (LT c hc) k1.1
 replace o1:=(bC k1 ⟨o1,r1.lt⟩ d10).1
 replace o2:=(bC k1 ⟨o2,r2.lt⟩ d20).1
 replace r1:=aI k1 r1 d10
 replace r2:=aI k1 r2 d20
 replace b:=bR k1 b nb0
 replace K:=K.trans (k1.mono fun c hc=>by simp[hc])
 clear k1
 (repeat' first|refine vs ?_|fail)
 refine aT (L9 _ _ F1 n _ _ r1 o1 (by omega) (by omega)) ?_
 rintro _ h3 ⟨rfl,k1,q1,p1⟩
 replace OO:=j3 OO LT k1 p1
 replace LT:∀ c∈F0++(F1++F2),c < h3.n:=fun c hc=>Nat.lt_of_lt_of_le (LT c hc) k1.1
 replace o2:=(bC k1 ⟨o2,r2.lt⟩ d21).1
 replace q0:=aI k1 q0 d01
 replace r2:=aI k1 r2 d21
 replace b:=bR k1 b nb1
 replace K:=K.trans (k1.mono fun c hc=>by simp[hc])
 clear k1
 (repeat' first|refine vs ?_|fail)
 refine aT (GZ _ _ F2 n _ _ r2 o2 (by omega) (by omega)) ?_
 rintro _ h4 ⟨rfl,k1,q2,p2⟩
 replace OO:=j3 OO LT k1 p2
 replace q0:=aI k1 q0 d02
 replace q1:=aI k1 q1 d12
 replace K:=K.trans (k1.mono fun c hc=>by simp[hc])
 clear k1
 (repeat' first|refine vs ?_|fail)
 exact⟨rfl,_,rfl,rfl,K,q0,q1,q2,OO⟩
theorem abo {x:dN} {v0 v1 v2:AV} {F0 F1 F2:List Nat} {m:Int} {h:AH} (r0:au h v0 (iD m x).1.near F0) (r1:au h v1 (iD m x).1.far F1) (r2:au h v2 (iD m x).1.rest F2) (h0:0≤m) (h1:(iD m x).2≤1099511627776):
  aN Tryz.prog H7 [.agg (x.cs v0 v1 v2),.int .i64 m] h (.int .i64 (iD m x).2):=by
 have u0:=cu x.near m
 have u1:=cu x.far (mks m x.near).2
 have u2:=cu x.rest (mks (mks m x.near).2 x.far).2
 have hm:(mks (mks (mks m x.near).2 x.far).2 x.rest).2≤1099511627776:=h1
 refine reader (acy _ _) (by simp only[old]) ?_
 unfold MX
 (repeat' first|refine vs ?_|fail)
 refine aQ (Ma x.near v0 F0 m _ (r0.ext ((Ext.refl h).push _)) h0 (by omega)) ?_
 (repeat' first|refine vs ?_|(refine br ?_ ?_<;>first|exact bo|intro _)|fail)
 refine aQ (Ma x.far v1 F1 _ _ (r1.ext ((Ext.refl h).push _)) (by omega) (by omega)) ?_
 (repeat' first|refine vs ?_|(refine br ?_ ?_<;>first|exact bo|intro _)|fail)
 refine aQ (He x.rest v2 F2 _ _ (r2.ext ((Ext.refl h).push _)) (by omega) (by omega)) ?_
 (repeat' first|refine vs ?_|(refine br ?_ ?_<;>first|exact bo|intro _)|fail)
 exact pi rfl
end Go.Proofs.YtekfdoknfcedpaaGreat
end
