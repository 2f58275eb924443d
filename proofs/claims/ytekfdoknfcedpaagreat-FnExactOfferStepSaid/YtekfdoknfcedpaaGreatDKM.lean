import Derived.Test.YtekfdoknfcedpaaGreatDNm
import Derived.Test.YtekfdoknfcedpaaGreatDK4
import Derived.Test.YtekfdoknfcedpaaGreatDKW1
import Derived.Test.YtekfdoknfcedpaaGreatDK5
section
set_option linter.unusedSimpArgs false
set_option linter.unusedVariables false
namespace Go.Proofs.YtekfdoknfcedpaaGreat
open Go Go.Ab
section
def OD (x0:AV):Prog:=Bn .leq x0 (.int .i64 0) fun a=>.ite a (.fin [.val (.str ⟨#[109,48]⟩)]) (.loop [x0,.str ⟨#[]⟩] (fun a=>Bn .gtr (g a 0) (.int .i64 0) fun b=>.ite b (Bn .rem (g a 0) (.int .i64 10) fun b=>Bn .add (.int .i64 48) b fun b=>.op (.conv .u8 b) fun b=>.op (.aW 1 1 [.int .u8 0] [(0,1,b)]) fun b=>.op (.rZ b) fun b=>.op (.bin 1 .add b (g a 1)) fun b=>Bn .quo (g a 0) (.int .i64 10) fun a=>.leaf 0 [a,b]) (.leaf 2 [g a 0,g a 1])) fun a b=>ak a 1 (.leaf 1 b) (ak a 2 (.op (.bin 1 .add (.str ⟨#[109]⟩) (g b 1)) fun a=>.fin [.val a]) .bad))
theorem ad6 (x0:AV):CC Tryz.prog iF [x0] (OD x0):=cc Tryz.func166 [0,3] (fun _=>[])
end
theorem ajG:∀ (f f' k:Nat),k≤f→k≤f'→qo f k=qo f' k:=by
 intro f
 induction f with
 |zero=>
  intro f' k h h'
  have:k=0:=by omega
  subst this
  cases f'<;>simp[qo]
 |succ f ih=>
  intro f' k h h'
  cases f' with
  |zero=>
   have:k=0:=by omega
   subst this;simp[qo]
  |succ f'=>
   simp only[qo]
   split
   ·rfl
   ·rw[ih f' (k / 10) (by omega) (by omega)]
def uU (n:Nat):List UInt8:=qo n n
theorem V5:uU 0=[]:=rfl
theorem V4 {n:Nat} (h:0 < n):uU n=uU (n / 10)++[UInt8.ofNat (48+n % 10)]:=by
 cases n with
 |zero=>omega
 |succ n=>
  unfold uU
  rw[qo,if_neg (by omega),ajG n ((n+1) / 10) ((n+1) / 10) (by omega) (Nat.le_refl _)]
theorem aky (n:Nat):(uU n).length≤n:=by
 induction n using Nat.strongRecOn with
 |_ n ih=>
  by_cases h:0 < n
  ·rw[V4 h,List.length_append]
   have:=ih (n / 10) (by omega)
   simp only[List.length_cons,List.length_nil];omega
  ·have:n=0:=by omega
   subst this;simp[V5]
theorem Vl (a b:ByteArray):bys (a++b)=bys a++bys b:=by
 unfold bys
 simp[ByteArray.data_append]
theorem alh {a b:ByteArray} (h:bys a=bys b):a=b:=by
 unfold bys at h
 exact ByteArray.ext (Array.toList_inj.1 h)
section
variable{P:Program} {h:AH} {Q:Nat→List AV→AH→Prop} {k:AV→Prog}
theorem Vo {a b:ByteArray} (hl:a.size+b.size≤9223372036854775807) (hk:(k (.str (a++b))).awp P h Q):(Prog.op (.bin 1 .add (.str a) (.str b)) k).awp P h Q:=by
 simp only[Prog.awp,AOp.go,fA,eP]
 rw[if_pos (by omega)];exact hk
theorem amP {n:Nat} (hn:n < 4611686018427387904) (hk:(k (.int .i64 ((n / 10:Nat):Int))).awp P h Q):(Prog.op (.bin 0 .quo (.int .i64 (n:Int)) (.int .i64 10)) k).awp P h Q:=by
 refine Vp (by decide) ?_
 have:(n:Int).tdiv 10=((n / 10:Nat):Int):=by rw[Int.tdiv_eq_ediv_of_nonneg (by omega)];omega
 rw[this,kg (by omega) (by omega)];exact hk
theorem amO {n:Nat} (hk:(k (.int .i64 ((n % 10:Nat):Int))).awp P h Q):(Prog.op (.bin 0 .rem (.int .i64 (n:Int)) (.int .i64 10)) k).awp P h Q:=by
 refine rD (by decide) ?_
 have:(n:Int).tmod 10=((n % 10:Nat):Int):=by rw[Int.tmod_eq_emod_of_nonneg (by omega)];omega
 rw[this];exact hk
theorem amb {n:Int} (h0:0≤n) (h1:n < 256) (hk:(k (.int .u8 n)).awp P h Q):(Prog.op (.conv .u8 (.int .i64 n)) k).awp P h Q:=by
 refine Vs ?_
 have:IntKind.u8.wrap n=n:=by
  rw[IntKind.wrap_u8];omega
 rw[this];exact hk
end
theorem Ci:LP Tryz.prog iF:=by
 intro k h h0 h1
 refine reader (ad6 _) (by simp only[old]) ?_
 unfold OD
 obtain⟨n,rfl⟩:∃ n:Nat,k=n:=⟨k.toNat,by omega⟩
 refine br (fun hle=>?_) (fun hgt=>?_)
 ·refine dz (dK (pv ?_))
  unfold nS;rw[if_pos hle]
 refine cu ?_
 refine zV (fun m vs h1=>∃ s,vs=[.int .i64 (m:Int),.str s]∧Ext h h1∧uU m++bys s=uU n∧m≤n) n ⟨_,rfl,Ext.refl _,by rw[show bys ⟨#[]⟩=[] from rfl,List.append_nil],Nat.le_refl _⟩ ?_
 rintro m vs h2 ⟨s,rfl,e2,hd,hm⟩
 simp only[g0,g1]
 have hl:=aky n
 rw[←hd,List.length_append,wU] at hl
 refine br (fun hlt=>?_) (fun hge=>?_)
 ·refine dz (amO (jB (by omega) (by omega) (amb (by omega) (by omega) ?_)))
  refine uP (by rfl) (by decide) (by rfl) ?_
  refine akD (n:=48+((m % 10:Nat):Int)) (by simp[splice]) (by simp[live]) ?_
  refine Vo (by have:(⟨#[UInt8.ofNat (48+((m % 10:Nat):Int)).toNat]⟩:ByteArray).size=1:=rfl;omega) ?_
  refine amP (by omega) (dw (iI ⟨m / 10,by omega,_,rfl,e2.push _,?_,by omega⟩))
  rw[Vl,←hd,V4 (show 0 < m by omega),List.append_assoc]
  congr 1
 ·have:m=0:=by omega
  subst this
  rw[V5,List.nil_append] at hd
  refine cu (dw (mD (by decide) (lF (by decide) (lG ?_))))
  simp only[g1]
  refine Vo (by have:(⟨#[109]⟩:ByteArray).size=1:=rfl;omega) (dK (pv ?_ e2))
  unfold nS
  rw[if_neg hgt]
  congr 1
  refine alh ?_
  rw[Vl,hd]
  rfl
end Go.Proofs.YtekfdoknfcedpaaGreat
end
section
set_option linter.unusedSimpArgs false
set_option linter.unusedVariables false
set_option maxHeartbeats 1000000
namespace Go.Proofs.YtekfdoknfcedpaaGreat
open Go Go.Ab
section
def abW (x0 x1:AV):Prog:=.loop [x1,.int .i64 0] (fun a=>Ln 0 x0 fun b=>Bn .lss (g a 1) b fun b=>.ite b (Cl iF [g a 0] fun b=>Ix 4 x0 (g a 1) fun c=>Sg 0 c b fun _=>Bn .add (g a 0) (.int .i64 1) fun b=>Bn .rem b (.int .i64 3) fun c=>Bn .eql c (.int .i64 0) fun c=>Ix 4 x0 (g a 1) fun d=>Sg 1 d c fun _=>Bn .add b (.int .i64 1) fun b=>Ix 4 x0 (g a 1) fun c=>Sg 2 c b fun _=>Bn .add b (.int .i64 1) fun b=>Cl iF [b] fun c=>Ix 4 x0 (g a 1) fun d=>Sg 3 d c fun _=>Bn .add b (.int .i64 1) fun b=>Bn .add (g a 1) (.int .i64 1) fun a=>.leaf 0 [b,a]) (.leaf 2 [g a 0,g a 1])) fun a b=>ak a 1 (.leaf 1 b) (ak a 2 (.fin [.val (g b 0)]) .bad)
theorem acA (x0 x1:AV):CC Tryz.prog ni [x0,x1] (abW x0 x1):=cc Tryz.func84 [0,1,5] (fun _=>[])
def ab1 (x0 x1:AV):Prog:=.loop [x1,.int .i64 0] (fun a=>Ln 0 x0 fun b=>Bn .lss (g a 1) b fun b=>.ite b (Ix 4 x0 (g a 1) fun b=>.op (.fad 0 b) fun b=>.op (.ld1 b) fun c=>Cl iF [g a 0] fun d=>.chk (.ld1 b) c (.op (.bin 1 .neq c d) fun b=>.ite b (.fin [.val (.int .i64 (-1))]) (Bn .add (g a 0) (.int .i64 1) fun b=>Ix 4 x0 (g a 1) fun c=>Lg 1 c fun c=>Bn .rem b (.int .i64 3) fun d=>Bn .eql d (.int .i64 0) fun d=>.op (.bin 2 .neq c d) fun c=>.ite c (.fin [.val (.int .i64 (-1))]) (Bn .add b (.int .i64 1) fun b=>Ix 4 x0 (g a 1) fun c=>Lg 2 c fun c=>Bn .neq c b fun c=>.ite c (.fin [.val (.int .i64 (-1))]) (Bn .add b (.int .i64 1) fun b=>Ix 4 x0 (g a 1) fun c=>.op (.fad 3 c) fun c=>.op (.ld1 c) fun d=>Cl iF [b] fun e=>.chk (.ld1 c) d (.op (.bin 1 .neq d e) fun c=>.ite c (.fin [.val (.int .i64 (-1))]) (Bn .add b (.int .i64 1) fun b=>Bn .add (g a 1) (.int .i64 1) fun a=>.leaf 0 [b,a]))))))) (.leaf 2 [g a 0,g a 1])) fun a b=>ak a 1 (.leaf 1 b) (ak a 2 (.fin [.val (g b 0)]) .bad)
theorem acH (x0 x1:AV):CC Tryz.prog nk [x0,x1] (ab1 x0 x1):=cc Tryz.func149 [0,1,5] (fun r=>if r=4 then[(0,[]),(1,[]),(2,[]),(3,[]),(4,[]),(5,[]),(6,[4]),(7,[])] else if r=13 then[(0,[]),(1,[]),(2,[]),(3,[]),(4,[]),(5,[]),(6,[4]),(7,[])] else[])
end
theorem BD:kV Attr Tryz.prog ni:=fun xs v F n m h r o h0 h1=>acA _ _ (Prog.jd _ (l7 (w:=4) rfl (ss:=[([0],.s iF),([1],.b),([2],.i),([3],.s iF)]) (fun x _=>by simp[MOk,Fld.f,Ci]) r o h0 h1) fun _ _ _ x=>x)
theorem BF:kW Attr Tryz.prog nk:=fun xs v F m h r h0 h1=>reader (acH _ _) (by simp only[old]) (mg (w:=4) rfl (ss:=[([0],.s iF),([1],.b),([2],.i),([3],.s iF)]) (fun x _=>by simp[HOk,Fld.f,Ci]) r h0 h1)
end Go.Proofs.YtekfdoknfcedpaaGreat
end
section
set_option linter.unusedSimpArgs false
set_option linter.unusedVariables false
set_option maxHeartbeats 1000000
namespace Go.Proofs.YtekfdoknfcedpaaGreat
open Go Go.Ab
section
def abT (x0 x1:AV):Prog:=.loop [x1,.int .i64 0] (fun a=>Ln 0 x0 fun b=>Bn .lss (g a 1) b fun b=>.ite b (Ix 6 x0 (g a 1) fun b=>Sg 0 b (g a 0) fun _=>Bn .add (g a 0) (.int .i64 1) fun b=>Ix 6 x0 (g a 1) fun c=>Sg 1 c b fun _=>Bn .add b (.int .i64 1) fun b=>Ix 6 x0 (g a 1) fun c=>Sg 2 c b fun _=>Bn .add b (.int .i64 1) fun b=>Ix 6 x0 (g a 1) fun c=>Sg 3 c b fun _=>Bn .add b (.int .i64 1) fun b=>Bn .rem b (.int .i64 3) fun c=>Bn .eql c (.int .i64 0) fun c=>Ix 6 x0 (g a 1) fun d=>Sg 4 d c fun _=>Bn .add b (.int .i64 1) fun b=>Ix 6 x0 (g a 1) fun c=>Lg 5 c fun c=>Cl ni [c,b] fun b=>Bn .add (g a 1) (.int .i64 1) fun a=>.leaf 0 [b,a]) (.leaf 2 [g a 0,g a 1])) fun a b=>ak a 1 (.leaf 1 b) (ak a 2 (.fin [.val (g b 0)]) .bad)
theorem acw (x0 x1:AV):CC Tryz.prog BQ [x0,x1] (abT x0 x1):=cc Tryz.func227 [0,1,5] (fun _=>[])
def abY (x0 x1:AV):Prog:=.loop [x1,.int .i64 0] (fun a=>Ln 0 x0 fun b=>Bn .lss (g a 1) b fun b=>.ite b (Ix 6 x0 (g a 1) fun b=>Lg 0 b fun b=>Bn .neq b (g a 0) fun b=>.ite b (.fin [.val (.int .i64 (-1))]) (Bn .add (g a 0) (.int .i64 1) fun b=>Ix 6 x0 (g a 1) fun c=>Lg 1 c fun c=>Bn .neq c b fun c=>.ite c (.fin [.val (.int .i64 (-1))]) (Bn .add b (.int .i64 1) fun b=>Ix 6 x0 (g a 1) fun c=>Lg 2 c fun c=>Bn .neq c b fun c=>.ite c (.fin [.val (.int .i64 (-1))]) (Bn .add b (.int .i64 1) fun b=>Ix 6 x0 (g a 1) fun c=>Lg 3 c fun c=>Bn .neq c b fun c=>.ite c (.fin [.val (.int .i64 (-1))]) (Bn .add b (.int .i64 1) fun b=>Ix 6 x0 (g a 1) fun c=>Lg 4 c fun c=>Bn .rem b (.int .i64 3) fun d=>Bn .eql d (.int .i64 0) fun d=>.op (.bin 2 .neq c d) fun c=>.ite c (.fin [.val (.int .i64 (-1))]) (Bn .add b (.int .i64 1) fun b=>Ix 6 x0 (g a 1) fun c=>Lg 5 c fun c=>Cl nk [c,b] fun b=>Bn .lss b (.int .i64 0) fun c=>.ite c (.fin [.val (.int .i64 (-1))]) (Bn .add (g a 1) (.int .i64 1) fun a=>.leaf 0 [b,a]))))))) (.leaf 2 [g a 0,g a 1])) fun a b=>ak a 1 (.leaf 1 b) (ak a 2 (.fin [.val (g b 0)]) .bad)
theorem acE (x0 x1:AV):CC Tryz.prog BS [x0,x1] (abY x0 x1):=cc Tryz.func229 [0,1,5] (fun _=>[])
end
theorem abq:kV Span Tryz.prog BQ:=fun xs v F n m h r o h0 h1=>acw _ _ (Prog.jd _ (l7 (w:=6) rfl (ss:=[([0],.i),([1],.i),([2],.i),([3],.i),([4],.b),([5],.l ni)]) (fun x _=>by simp[MOk,Fld.f,BD.x]) r o h0 h1) fun _ _ _ x=>x)
theorem abv:kW Span Tryz.prog BS:=fun xs v F m h r h0 h1=>reader (acE _ _) (by simp only[old]) (mg (w:=6) rfl (ss:=[([0],.i),([1],.i),([2],.i),([3],.i),([4],.b),([5],.l nk)]) (fun x _=>by simp[HOk,Fld.f,BF.x]) r h0 h1)
end Go.Proofs.YtekfdoknfcedpaaGreat
end
section
set_option linter.unusedSimpArgs false
set_option linter.unusedVariables false
set_option maxHeartbeats 1000000
namespace Go.Proofs.YtekfdoknfcedpaaGreat
open Go Go.Ab
section
def aaQ (x0 x1:AV):Prog:=.loop [x1,.int .i64 0] (fun a=>Ln 0 x0 fun b=>Bn .lss (g a 1) b fun b=>.ite b (Ix 4 x0 (g a 1) fun b=>Sg 0 b (g a 0) fun _=>Bn .add (g a 0) (.int .i64 1) fun b=>Ix 4 x0 (g a 1) fun c=>Sg 1 c b fun _=>Bn .add b (.int .i64 1) fun b=>Ix 4 x0 (g a 1) fun c=>Sg 2 c b fun _=>Bn .add b (.int .i64 1) fun b=>Ix 4 x0 (g a 1) fun c=>Lg 3 c fun c=>Cl BQ [c,b] fun b=>Bn .add (g a 1) (.int .i64 1) fun a=>.leaf 0 [b,a]) (.leaf 2 [g a 0,g a 1])) fun a b=>ak a 1 (.leaf 1 b) (ak a 2 (.fin [.val (g b 0)]) .bad)
theorem aaY (x0 x1:AV):CC Tryz.prog Bu [x0,x1] (aaQ x0 x1):=cc Tryz.func144 [0,1,5] (fun _=>[])
def aaS (x0 x1:AV):Prog:=.loop [x1,.int .i64 0] (fun a=>Ln 0 x0 fun b=>Bn .lss (g a 1) b fun b=>.ite b (Ix 4 x0 (g a 1) fun b=>Lg 0 b fun b=>Bn .neq b (g a 0) fun b=>.ite b (.fin [.val (.int .i64 (-1))]) (Bn .add (g a 0) (.int .i64 1) fun b=>Ix 4 x0 (g a 1) fun c=>Lg 1 c fun c=>Bn .neq c b fun c=>.ite c (.fin [.val (.int .i64 (-1))]) (Bn .add b (.int .i64 1) fun b=>Ix 4 x0 (g a 1) fun c=>Lg 2 c fun c=>Bn .neq c b fun c=>.ite c (.fin [.val (.int .i64 (-1))]) (Bn .add b (.int .i64 1) fun b=>Ix 4 x0 (g a 1) fun c=>Lg 3 c fun c=>Cl BS [c,b] fun b=>Bn .lss b (.int .i64 0) fun c=>.ite c (.fin [.val (.int .i64 (-1))]) (Bn .add (g a 1) (.int .i64 1) fun a=>.leaf 0 [b,a]))))) (.leaf 2 [g a 0,g a 1])) fun a b=>ak a 1 (.leaf 1 b) (ak a 2 (.fin [.val (g b 0)]) .bad)
theorem aa0 (x0 x1:AV):CC Tryz.prog Bv [x0,x1] (aaS x0 x1):=cc Tryz.func147 [0,1,5] (fun _=>[])
end
theorem aaA:kV Trail Tryz.prog Bu:=fun xs v F n m h r o h0 h1=>aaY _ _ (Prog.jd _ (l7 (w:=4) rfl (ss:=[([0],.i),([1],.i),([2],.i),([3],.l BQ)]) (fun x _=>by simp[MOk,Fld.f,abq.x]) r o h0 h1) fun _ _ _ x=>x)
theorem aaB:kW Trail Tryz.prog Bv:=fun xs v F m h r h0 h1=>reader (aa0 _ _) (by simp only[old]) (mg (w:=4) rfl (ss:=[([0],.i),([1],.i),([2],.i),([3],.l BS)]) (fun x _=>by simp[HOk,Fld.f,abv.x]) r h0 h1)
end Go.Proofs.YtekfdoknfcedpaaGreat
end
section
set_option linter.unusedSimpArgs false
set_option linter.unusedVariables false
set_option maxHeartbeats 1000000
namespace Go.Proofs.YtekfdoknfcedpaaGreat
open Go Go.Ab
section
def aam (x0 x1:AV):Prog:=.loop [x1,.int .i64 0] (fun a=>Ln 0 x0 fun b=>Bn .lss (g a 1) b fun b=>.ite b (Ix 2 x0 (g a 1) fun b=>Sg 0 b (g a 0) fun _=>Bn .add (g a 0) (.int .i64 1) fun b=>Ix 2 x0 (g a 1) fun c=>Lg 1 c fun c=>Cl Bu [c,b] fun b=>Bn .add (g a 1) (.int .i64 1) fun a=>.leaf 0 [b,a]) (.leaf 2 [g a 0,g a 1])) fun a b=>ak a 1 (.leaf 1 b) (ak a 2 (.fin [.val (g b 0)]) .bad)
theorem aas (x0 x1:AV):CC Tryz.prog Ht [x0,x1] (aam x0 x1):=cc Tryz.func58 [0,1,5] (fun _=>[])
def aao (x0 x1:AV):Prog:=.loop [x1,.int .i64 0] (fun a=>Ln 0 x0 fun b=>Bn .lss (g a 1) b fun b=>.ite b (Ix 2 x0 (g a 1) fun b=>Lg 0 b fun b=>Bn .neq b (g a 0) fun b=>.ite b (.fin [.val (.int .i64 (-1))]) (Bn .add (g a 0) (.int .i64 1) fun b=>Ix 2 x0 (g a 1) fun c=>Lg 1 c fun c=>Cl Bv [c,b] fun b=>Bn .lss b (.int .i64 0) fun c=>.ite c (.fin [.val (.int .i64 (-1))]) (Bn .add (g a 1) (.int .i64 1) fun a=>.leaf 0 [b,a]))) (.leaf 2 [g a 0,g a 1])) fun a b=>ak a 1 (.leaf 1 b) (ak a 2 (.fin [.val (g b 0)]) .bad)
theorem aau (x0 x1:AV):CC Tryz.prog Hu [x0,x1] (aao x0 x1):=cc Tryz.func66 [0,1,5] (fun _=>[])
end
theorem aag:kV aM Tryz.prog Ht:=fun xs v F n m h r o h0 h1=>aas _ _ (Prog.jd _ (l7 (w:=2) rfl (ss:=[([0],.i),([1],.l Bu)]) (fun x _=>by simp[MOk,Fld.f,aaA.x]) r o h0 h1) fun _ _ _ x=>x)
theorem aah:kW aM Tryz.prog Hu:=fun xs v F m h r h0 h1=>reader (aau _ _) (by simp only[old]) (mg (w:=2) rfl (ss:=[([0],.i),([1],.l Bv)]) (fun x _=>by simp[HOk,Fld.f,aaB.x]) r h0 h1)
end Go.Proofs.YtekfdoknfcedpaaGreat
end
section
set_option linter.unusedSimpArgs false
set_option linter.unusedVariables false
set_option maxHeartbeats 1000000
namespace Go.Proofs.YtekfdoknfcedpaaGreat
open Go Go.Ab
section
def abU (x0 x1:AV):Prog:=.loop [x1,.int .i64 0] (fun a=>Ln 0 x0 fun b=>Bn .lss (g a 1) b fun b=>.ite b (Ix 7 x0 (g a 1) fun b=>Sg 0 b (g a 0) fun _=>Bn .add (g a 0) (.int .i64 1) fun b=>Ix 7 x0 (g a 1) fun c=>.op (.fad 1 c) fun c=>Sg 0 c b fun _=>Bn .add b (.int .i64 1) fun b=>Ix 7 x0 (g a 1) fun c=>.op (.fad 1 c) fun c=>Sg 1 c b fun _=>Bn .add b (.int .i64 1) fun b=>Ix 7 x0 (g a 1) fun c=>.op (.fad 1 c) fun c=>Sg 2 c b fun _=>Bn .add b (.int .i64 1) fun b=>Ix 7 x0 (g a 1) fun c=>.op (.fad 1 c) fun c=>Sg 3 c b fun _=>Bn .add b (.int .i64 1) fun b=>Bn .rem b (.int .i64 3) fun c=>Bn .eql c (.int .i64 0) fun c=>Ix 7 x0 (g a 1) fun d=>.op (.fad 1 d) fun d=>Sg 4 d c fun _=>Bn .add b (.int .i64 1) fun b=>Ix 7 x0 (g a 1) fun c=>.op (.fad 1 c) fun c=>Lg 5 c fun c=>Cl ni [c,b] fun b=>Bn .add (g a 1) (.int .i64 1) fun a=>.leaf 0 [b,a]) (.leaf 2 [g a 0,g a 1])) fun a b=>ak a 1 (.leaf 1 b) (ak a 2 (.fin [.val (g b 0)]) .bad)
theorem acy (x0 x1:AV):CC Tryz.prog vB [x0,x1] (abU x0 x1):=cc Tryz.func62 [0,1,5] (fun _=>[])
def abZ (x0 x1:AV):Prog:=.loop [x1,.int .i64 0] (fun a=>Ln 0 x0 fun b=>Bn .lss (g a 1) b fun b=>.ite b (Ix 7 x0 (g a 1) fun b=>Lg 0 b fun b=>Bn .neq b (g a 0) fun b=>.ite b (.fin [.val (.int .i64 (-1))]) (Bn .add (g a 0) (.int .i64 1) fun b=>Ix 7 x0 (g a 1) fun c=>.op (.fad 1 c) fun c=>Lg 0 c fun c=>Bn .neq c b fun c=>.ite c (.fin [.val (.int .i64 (-1))]) (Bn .add b (.int .i64 1) fun b=>Ix 7 x0 (g a 1) fun c=>.op (.fad 1 c) fun c=>Lg 1 c fun c=>Bn .neq c b fun c=>.ite c (.fin [.val (.int .i64 (-1))]) (Bn .add b (.int .i64 1) fun b=>Ix 7 x0 (g a 1) fun c=>.op (.fad 1 c) fun c=>Lg 2 c fun c=>Bn .neq c b fun c=>.ite c (.fin [.val (.int .i64 (-1))]) (Bn .add b (.int .i64 1) fun b=>Ix 7 x0 (g a 1) fun c=>.op (.fad 1 c) fun c=>Lg 3 c fun c=>Bn .neq c b fun c=>.ite c (.fin [.val (.int .i64 (-1))]) (Bn .add b (.int .i64 1) fun b=>Ix 7 x0 (g a 1) fun c=>.op (.fad 1 c) fun c=>Lg 4 c fun c=>Bn .rem b (.int .i64 3) fun d=>Bn .eql d (.int .i64 0) fun d=>.op (.bin 2 .neq c d) fun c=>.ite c (.fin [.val (.int .i64 (-1))]) (Bn .add b (.int .i64 1) fun b=>Ix 7 x0 (g a 1) fun c=>.op (.fad 1 c) fun c=>Lg 5 c fun c=>Cl nk [c,b] fun b=>Bn .lss b (.int .i64 0) fun c=>.ite c (.fin [.val (.int .i64 (-1))]) (Bn .add (g a 1) (.int .i64 1) fun a=>.leaf 0 [b,a])))))))) (.leaf 2 [g a 0,g a 1])) fun a b=>ak a 1 (.leaf 1 b) (ak a 2 (.fin [.val (g b 0)]) .bad)
theorem acF (x0 x1:AV):CC Tryz.prog vC [x0,x1] (abZ x0 x1):=cc Tryz.func70 [0,1,5] (fun _=>[])
end
theorem H9:kV Itm Tryz.prog vB:=fun xs v F n m h r o h0 h1=>acy _ _ (Prog.jd _ (l7 (w:=7) rfl (ss:=[([0],.i),([1,0],.i),([1,1],.i),([1,2],.i),([1,3],.i),([1,4],.b),([1,5],.l ni)]) (fun x _=>by simp[MOk,Fld.f,BD.x]) r o h0 h1) fun _ _ _ x=>x)
theorem Ia:kW Itm Tryz.prog vC:=fun xs v F m h r h0 h1=>reader (acF _ _) (by simp only[old]) (mg (w:=7) rfl (ss:=[([0],.i),([1,0],.i),([1,1],.i),([1,2],.i),([1,3],.i),([1,4],.b),([1,5],.l nk)]) (fun x _=>by simp[HOk,Fld.f,BF.x]) r h0 h1)
end Go.Proofs.YtekfdoknfcedpaaGreat
end
section
set_option linter.unusedSimpArgs false
set_option linter.unusedVariables false
set_option maxHeartbeats 1000000
namespace Go.Proofs.YtekfdoknfcedpaaGreat
open Go Go.Ab
section
def abS (x0 x1:AV):Prog:=.loop [x1,.int .i64 0] (fun a=>Ln 0 x0 fun b=>Bn .lss (g a 1) b fun b=>.ite b (Ix 12 x0 (g a 1) fun b=>Sg 0 b (g a 0) fun _=>Bn .add (g a 0) (.int .i64 1) fun b=>Ix 12 x0 (g a 1) fun c=>Sg 1 c b fun _=>Bn .add b (.int .i64 1) fun b=>Ix 12 x0 (g a 1) fun c=>.op (.fad 2 c) fun c=>Sg 0 c b fun _=>Bn .add b (.int .i64 1) fun b=>Ix 12 x0 (g a 1) fun c=>.op (.fad 2 c) fun c=>Sg 1 c b fun _=>Bn .add b (.int .i64 1) fun b=>Ix 12 x0 (g a 1) fun c=>.op (.fad 2 c) fun c=>Sg 2 c b fun _=>Bn .add b (.int .i64 1) fun b=>Ix 12 x0 (g a 1) fun c=>.op (.fad 2 c) fun c=>Sg 3 c b fun _=>Bn .add b (.int .i64 1) fun b=>Bn .rem b (.int .i64 3) fun c=>Bn .eql c (.int .i64 0) fun c=>Ix 12 x0 (g a 1) fun d=>.op (.fad 2 d) fun d=>Sg 4 d c fun _=>Bn .add b (.int .i64 1) fun b=>Ix 12 x0 (g a 1) fun c=>.op (.fad 2 c) fun c=>Lg 5 c fun c=>Cl ni [c,b] fun b=>Ix 12 x0 (g a 1) fun c=>Sg 8 c b fun _=>Bn .add b (.int .i64 1) fun b=>Ix 12 x0 (g a 1) fun c=>Sg 9 c b fun _=>Bn .add b (.int .i64 1) fun b=>Ix 12 x0 (g a 1) fun c=>Lg 10 c fun c=>Cl vB [c,b] fun b=>Ix 12 x0 (g a 1) fun c=>Sg 11 c b fun _=>Bn .add b (.int .i64 1) fun b=>Bn .add (g a 1) (.int .i64 1) fun a=>.leaf 0 [b,a]) (.leaf 2 [g a 0,g a 1])) fun a b=>ak a 1 (.leaf 1 b) (ak a 2 (.fin [.val (g b 0)]) .bad)
theorem acv (x0 x1:AV):CC Tryz.prog Ik [x0,x1] (abS x0 x1):=cc Tryz.func63 [0,1,5] (fun _=>[])
def abX (x0 x1:AV):Prog:=.loop [x1,.int .i64 0] (fun a=>Ln 0 x0 fun b=>Bn .lss (g a 1) b fun b=>.ite b (Ix 12 x0 (g a 1) fun b=>Lg 0 b fun b=>Bn .neq b (g a 0) fun b=>.ite b (.fin [.val (.int .i64 (-1))]) (Bn .add (g a 0) (.int .i64 1) fun b=>Ix 12 x0 (g a 1) fun c=>Lg 1 c fun c=>Bn .neq c b fun c=>.ite c (.fin [.val (.int .i64 (-1))]) (Bn .add b (.int .i64 1) fun b=>Ix 12 x0 (g a 1) fun c=>.op (.fad 2 c) fun c=>Lg 0 c fun c=>Bn .neq c b fun c=>.ite c (.fin [.val (.int .i64 (-1))]) (Bn .add b (.int .i64 1) fun b=>Ix 12 x0 (g a 1) fun c=>.op (.fad 2 c) fun c=>Lg 1 c fun c=>Bn .neq c b fun c=>.ite c (.fin [.val (.int .i64 (-1))]) (Bn .add b (.int .i64 1) fun b=>Ix 12 x0 (g a 1) fun c=>.op (.fad 2 c) fun c=>Lg 2 c fun c=>Bn .neq c b fun c=>.ite c (.fin [.val (.int .i64 (-1))]) (Bn .add b (.int .i64 1) fun b=>Ix 12 x0 (g a 1) fun c=>.op (.fad 2 c) fun c=>Lg 3 c fun c=>Bn .neq c b fun c=>.ite c (.fin [.val (.int .i64 (-1))]) (Bn .add b (.int .i64 1) fun b=>Ix 12 x0 (g a 1) fun c=>.op (.fad 2 c) fun c=>Lg 4 c fun c=>Bn .rem b (.int .i64 3) fun d=>Bn .eql d (.int .i64 0) fun d=>.op (.bin 2 .neq c d) fun c=>.ite c (.fin [.val (.int .i64 (-1))]) (Bn .add b (.int .i64 1) fun b=>Ix 12 x0 (g a 1) fun c=>.op (.fad 2 c) fun c=>Lg 5 c fun c=>Cl nk [c,b] fun b=>Bn .lss b (.int .i64 0) fun c=>.ite c (.fin [.val (.int .i64 (-1))]) (Ix 12 x0 (g a 1) fun c=>Lg 8 c fun c=>Bn .neq c b fun c=>.ite c (.fin [.val (.int .i64 (-1))]) (Bn .add b (.int .i64 1) fun b=>Ix 12 x0 (g a 1) fun c=>Lg 9 c fun c=>Bn .neq c b fun c=>.ite c (.fin [.val (.int .i64 (-1))]) (Bn .add b (.int .i64 1) fun b=>Ix 12 x0 (g a 1) fun c=>Lg 10 c fun c=>Cl vC [c,b] fun b=>Bn .lss b (.int .i64 0) fun c=>.ite c (.fin [.val (.int .i64 (-1))]) (Ix 12 x0 (g a 1) fun c=>Lg 11 c fun c=>Bn .neq c b fun c=>.ite c (.fin [.val (.int .i64 (-1))]) (Bn .add b (.int .i64 1) fun b=>Bn .add (g a 1) (.int .i64 1) fun a=>.leaf 0 [b,a]))))))))))))) (.leaf 2 [g a 0,g a 1])) fun a b=>ak a 1 (.leaf 1 b) (ak a 2 (.fin [.val (g b 0)]) .bad)
theorem acD (x0 x1:AV):CC Tryz.prog Io [x0,x1] (abX x0 x1):=cc Tryz.func71 [0,1,5] (fun _=>[])
end
theorem abp:kV Task Tryz.prog Ik:=fun xs v F n m h r o h0 h1=>acv _ _ (Prog.jd _ (l7 (w:=12) rfl (ss:=[([0],.i),([1],.i),([2,0],.i),([2,1],.i),([2,2],.i),([2,3],.i),([2,4],.b),([2,5],.l ni),([8],.i),([9],.i),([10],.l vB),([11],.i)]) (fun x _=>by simp[MOk,Fld.f,BD.x,H9.x]) r o h0 h1) fun _ _ _ x=>x)
theorem abu:kW Task Tryz.prog Io:=fun xs v F m h r h0 h1=>reader (acD _ _) (by simp only[old]) (mg (w:=12) rfl (ss:=[([0],.i),([1],.i),([2,0],.i),([2,1],.i),([2,2],.i),([2,3],.i),([2,4],.b),([2,5],.l nk),([8],.i),([9],.i),([10],.l vC),([11],.i)]) (fun x _=>by simp[HOk,Fld.f,BF.x,Ia.x]) r h0 h1)
end Go.Proofs.YtekfdoknfcedpaaGreat
end
section
set_option linter.unusedSimpArgs false
set_option linter.unusedVariables false
set_option maxHeartbeats 1000000
namespace Go.Proofs.YtekfdoknfcedpaaGreat
open Go Go.Ab
section
def abV (x0 x1:AV):Prog:=.loop [x1,.int .i64 0] (fun a=>Ln 0 x0 fun b=>Bn .lss (g a 1) b fun b=>.ite b (Ix 20 x0 (g a 1) fun b=>Sg 0 b (g a 0) fun _=>Bn .add (g a 0) (.int .i64 1) fun b=>Ix 20 x0 (g a 1) fun c=>Sg 1 c b fun _=>Bn .add b (.int .i64 1) fun b=>Ix 20 x0 (g a 1) fun c=>.op (.fad 2 c) fun c=>Sg 0 c b fun _=>Bn .add b (.int .i64 1) fun b=>Ix 20 x0 (g a 1) fun c=>.op (.fad 2 c) fun c=>Sg 1 c b fun _=>Bn .add b (.int .i64 1) fun b=>Ix 20 x0 (g a 1) fun c=>.op (.fad 2 c) fun c=>Sg 2 c b fun _=>Bn .add b (.int .i64 1) fun b=>Ix 20 x0 (g a 1) fun c=>.op (.fad 2 c) fun c=>Sg 3 c b fun _=>Bn .add b (.int .i64 1) fun b=>Bn .rem b (.int .i64 3) fun c=>Bn .eql c (.int .i64 0) fun c=>Ix 20 x0 (g a 1) fun d=>.op (.fad 2 d) fun d=>Sg 4 d c fun _=>Bn .add b (.int .i64 1) fun b=>Ix 20 x0 (g a 1) fun c=>.op (.fad 2 c) fun c=>Lg 5 c fun c=>Cl ni [c,b] fun b=>Ix 20 x0 (g a 1) fun c=>Sg 8 c b fun _=>Bn .add b (.int .i64 1) fun b=>Ix 20 x0 (g a 1) fun c=>Sg 9 c b fun _=>Bn .add b (.int .i64 1) fun b=>Ix 20 x0 (g a 1) fun c=>Sg 10 c b fun _=>Bn .add b (.int .i64 1) fun b=>Bn .rem b (.int .i64 3) fun c=>Bn .eql c (.int .i64 0) fun c=>Ix 20 x0 (g a 1) fun d=>Sg 11 d c fun _=>Bn .add b (.int .i64 1) fun b=>Bn .rem b (.int .i64 3) fun c=>Bn .eql c (.int .i64 0) fun c=>Ix 20 x0 (g a 1) fun d=>Sg 12 d c fun _=>Bn .add b (.int .i64 1) fun b=>Ix 20 x0 (g a 1) fun c=>Sg 13 c b fun _=>Bn .add b (.int .i64 1) fun b=>Ix 20 x0 (g a 1) fun c=>Sg 14 c b fun _=>Bn .add b (.int .i64 1) fun b=>Ix 20 x0 (g a 1) fun c=>Sg 15 c b fun _=>Bn .add b (.int .i64 1) fun b=>Ix 20 x0 (g a 1) fun c=>Sg 16 c b fun _=>Bn .add b (.int .i64 1) fun b=>Ix 20 x0 (g a 1) fun c=>Sg 17 c b fun _=>Bn .add b (.int .i64 1) fun b=>Ix 20 x0 (g a 1) fun c=>Sg 18 c b fun _=>Bn .add b (.int .i64 1) fun b=>Ix 20 x0 (g a 1) fun c=>Sg 19 c b fun _=>Bn .add b (.int .i64 1) fun b=>Bn .add (g a 1) (.int .i64 1) fun a=>.leaf 0 [b,a]) (.leaf 2 [g a 0,g a 1])) fun a b=>ak a 1 (.leaf 1 b) (ak a 2 (.fin [.val (g b 0)]) .bad)
theorem acz (x0 x1:AV):CC Tryz.prog Il [x0,x1] (abV x0 x1):=cc Tryz.func64 [0,1,5] (fun _=>[])
def ab0 (x0 x1:AV):Prog:=.loop [x1,.int .i64 0] (fun a=>Ln 0 x0 fun b=>Bn .lss (g a 1) b fun b=>.ite b (Ix 20 x0 (g a 1) fun b=>Lg 0 b fun b=>Bn .neq b (g a 0) fun b=>.ite b (.fin [.val (.int .i64 (-1))]) (Bn .add (g a 0) (.int .i64 1) fun b=>Ix 20 x0 (g a 1) fun c=>Lg 1 c fun c=>Bn .neq c b fun c=>.ite c (.fin [.val (.int .i64 (-1))]) (Bn .add b (.int .i64 1) fun b=>Ix 20 x0 (g a 1) fun c=>.op (.fad 2 c) fun c=>Lg 0 c fun c=>Bn .neq c b fun c=>.ite c (.fin [.val (.int .i64 (-1))]) (Bn .add b (.int .i64 1) fun b=>Ix 20 x0 (g a 1) fun c=>.op (.fad 2 c) fun c=>Lg 1 c fun c=>Bn .neq c b fun c=>.ite c (.fin [.val (.int .i64 (-1))]) (Bn .add b (.int .i64 1) fun b=>Ix 20 x0 (g a 1) fun c=>.op (.fad 2 c) fun c=>Lg 2 c fun c=>Bn .neq c b fun c=>.ite c (.fin [.val (.int .i64 (-1))]) (Bn .add b (.int .i64 1) fun b=>Ix 20 x0 (g a 1) fun c=>.op (.fad 2 c) fun c=>Lg 3 c fun c=>Bn .neq c b fun c=>.ite c (.fin [.val (.int .i64 (-1))]) (Bn .add b (.int .i64 1) fun b=>Ix 20 x0 (g a 1) fun c=>.op (.fad 2 c) fun c=>Lg 4 c fun c=>Bn .rem b (.int .i64 3) fun d=>Bn .eql d (.int .i64 0) fun d=>.op (.bin 2 .neq c d) fun c=>.ite c (.fin [.val (.int .i64 (-1))]) (Bn .add b (.int .i64 1) fun b=>Ix 20 x0 (g a 1) fun c=>.op (.fad 2 c) fun c=>Lg 5 c fun c=>Cl nk [c,b] fun b=>Bn .lss b (.int .i64 0) fun c=>.ite c (.fin [.val (.int .i64 (-1))]) (Ix 20 x0 (g a 1) fun c=>Lg 8 c fun c=>Bn .neq c b fun c=>.ite c (.fin [.val (.int .i64 (-1))]) (Bn .add b (.int .i64 1) fun b=>Ix 20 x0 (g a 1) fun c=>Lg 9 c fun c=>Bn .neq c b fun c=>.ite c (.fin [.val (.int .i64 (-1))]) (Bn .add b (.int .i64 1) fun b=>Ix 20 x0 (g a 1) fun c=>Lg 10 c fun c=>Bn .neq c b fun c=>.ite c (.fin [.val (.int .i64 (-1))]) (Bn .add b (.int .i64 1) fun b=>Ix 20 x0 (g a 1) fun c=>Lg 11 c fun c=>Bn .rem b (.int .i64 3) fun d=>Bn .eql d (.int .i64 0) fun d=>.op (.bin 2 .neq c d) fun c=>.ite c (.fin [.val (.int .i64 (-1))]) (Bn .add b (.int .i64 1) fun b=>Ix 20 x0 (g a 1) fun c=>Lg 12 c fun c=>Bn .rem b (.int .i64 3) fun d=>Bn .eql d (.int .i64 0) fun d=>.op (.bin 2 .neq c d) fun c=>.ite c (.fin [.val (.int .i64 (-1))]) (Bn .add b (.int .i64 1) fun b=>Ix 20 x0 (g a 1) fun c=>Lg 13 c fun c=>Bn .neq c b fun c=>.ite c (.fin [.val (.int .i64 (-1))]) (Bn .add b (.int .i64 1) fun b=>Ix 20 x0 (g a 1) fun c=>Lg 14 c fun c=>Bn .neq c b fun c=>.ite c (.fin [.val (.int .i64 (-1))]) (Bn .add b (.int .i64 1) fun b=>Ix 20 x0 (g a 1) fun c=>Lg 15 c fun c=>Bn .neq c b fun c=>.ite c (.fin [.val (.int .i64 (-1))]) (Bn .add b (.int .i64 1) fun b=>Ix 20 x0 (g a 1) fun c=>Lg 16 c fun c=>Bn .neq c b fun c=>.ite c (.fin [.val (.int .i64 (-1))]) (Bn .add b (.int .i64 1) fun b=>Ix 20 x0 (g a 1) fun c=>Lg 17 c fun c=>Bn .neq c b fun c=>.ite c (.fin [.val (.int .i64 (-1))]) (Bn .add b (.int .i64 1) fun b=>Ix 20 x0 (g a 1) fun c=>Lg 18 c fun c=>Bn .neq c b fun c=>.ite c (.fin [.val (.int .i64 (-1))]) (Bn .add b (.int .i64 1) fun b=>Ix 20 x0 (g a 1) fun c=>Lg 19 c fun c=>Bn .neq c b fun c=>.ite c (.fin [.val (.int .i64 (-1))]) (Bn .add b (.int .i64 1) fun b=>Bn .add (g a 1) (.int .i64 1) fun a=>.leaf 0 [b,a]))))))))))))))))))))) (.leaf 2 [g a 0,g a 1])) fun a b=>ak a 1 (.leaf 1 b) (ak a 2 (.fin [.val (g b 0)]) .bad)
theorem acG (x0 x1:AV):CC Tryz.prog Ip [x0,x1] (ab0 x0 x1):=cc Tryz.func72 [0,1,5] (fun _=>[])
end
theorem abr:kV bV Tryz.prog Il:=fun xs v F n m h r o h0 h1=>acz _ _ (Prog.jd _ (l7 (w:=20) rfl (ss:=[([0],.i),([1],.i),([2,0],.i),([2,1],.i),([2,2],.i),([2,3],.i),([2,4],.b),([2,5],.l ni),([8],.i),([9],.i),([10],.i),([11],.b),([12],.b),([13],.i),([14],.i),([15],.i),([16],.i),([17],.i),([18],.i),([19],.i)]) (fun x _=>by simp[MOk,Fld.f,BD.x]) r o h0 h1) fun _ _ _ x=>x)
theorem abw:kW bV Tryz.prog Ip:=fun xs v F m h r h0 h1=>reader (acG _ _) (by simp only[old]) (mg (w:=20) rfl (ss:=[([0],.i),([1],.i),([2,0],.i),([2,1],.i),([2,2],.i),([2,3],.i),([2,4],.b),([2,5],.l nk),([8],.i),([9],.i),([10],.i),([11],.b),([12],.b),([13],.i),([14],.i),([15],.i),([16],.i),([17],.i),([18],.i),([19],.i)]) (fun x _=>by simp[HOk,Fld.f,BF.x]) r h0 h1)
end Go.Proofs.YtekfdoknfcedpaaGreat
end
section
set_option linter.unusedSimpArgs false
set_option linter.unusedVariables false
set_option maxHeartbeats 1000000
namespace Go.Proofs.YtekfdoknfcedpaaGreat
open Go Go.Ab
section
def aaR (x0 x1:AV):Prog:=.loop [x1,.int .i64 0] (fun a=>Ln 0 x0 fun b=>Bn .lss (g a 1) b fun b=>.ite b (Ix 3 x0 (g a 1) fun b=>Sg 0 b (g a 0) fun _=>Bn .add (g a 0) (.int .i64 1) fun b=>Ix 3 x0 (g a 1) fun c=>Sg 1 c b fun _=>Bn .add b (.int .i64 1) fun b=>Ix 3 x0 (g a 1) fun c=>Sg 2 c b fun _=>Bn .add b (.int .i64 1) fun b=>Bn .add (g a 1) (.int .i64 1) fun a=>.leaf 0 [b,a]) (.leaf 2 [g a 0,g a 1])) fun a b=>ak a 1 (.leaf 1 b) (ak a 2 (.fin [.val (g b 0)]) .bad)
theorem aaZ (x0 x1:AV):CC Tryz.prog uZ [x0,x1] (aaR x0 x1):=cc Tryz.func61 [0,1,5] (fun _=>[])
def aaT (x0 x1:AV):Prog:=.loop [x1,.int .i64 0] (fun a=>Ln 0 x0 fun b=>Bn .lss (g a 1) b fun b=>.ite b (Ix 3 x0 (g a 1) fun b=>Lg 0 b fun b=>Bn .neq b (g a 0) fun b=>.ite b (.fin [.val (.int .i64 (-1))]) (Bn .add (g a 0) (.int .i64 1) fun b=>Ix 3 x0 (g a 1) fun c=>Lg 1 c fun c=>Bn .neq c b fun c=>.ite c (.fin [.val (.int .i64 (-1))]) (Bn .add b (.int .i64 1) fun b=>Ix 3 x0 (g a 1) fun c=>Lg 2 c fun c=>Bn .neq c b fun c=>.ite c (.fin [.val (.int .i64 (-1))]) (Bn .add b (.int .i64 1) fun b=>Bn .add (g a 1) (.int .i64 1) fun a=>.leaf 0 [b,a])))) (.leaf 2 [g a 0,g a 1])) fun a b=>ak a 1 (.leaf 1 b) (ak a 2 (.fin [.val (g b 0)]) .bad)
theorem aa1 (x0 x1:AV):CC Tryz.prog vg [x0,x1] (aaT x0 x1):=cc Tryz.func69 [0,1,5] (fun _=>[])
end
theorem Hz:kV Ab.Timer Tryz.prog uZ:=fun xs v F n m h r o h0 h1=>aaZ _ _ (Prog.jd _ (l7 (w:=3) rfl (ss:=[([0],.i),([1],.i),([2],.i)]) (fun x _=>by simp[MOk,Fld.f]) r o h0 h1) fun _ _ _ x=>x)
theorem HV:kW Ab.Timer Tryz.prog vg:=fun xs v F m h r h0 h1=>reader (aa1 _ _) (by simp only[old]) (mg (w:=3) rfl (ss:=[([0],.i),([1],.i),([2],.i)]) (fun x _=>by simp[HOk,Fld.f]) r h0 h1)
end Go.Proofs.YtekfdoknfcedpaaGreat
end
section
set_option linter.unusedSimpArgs false
set_option linter.unusedVariables false
set_option maxHeartbeats 1000000
namespace Go.Proofs.YtekfdoknfcedpaaGreat
open Go Go.Ab
section
def Z7 (x0 x1:AV):Prog:=.loop [x1,.int .i64 0] (fun a=>Ln 0 x0 fun b=>Bn .lss (g a 1) b fun b=>.ite b (Ix 3 x0 (g a 1) fun b=>Sg 0 b (g a 0) fun _=>Bn .add (g a 0) (.int .i64 1) fun b=>Ix 3 x0 (g a 1) fun c=>Sg 1 c b fun _=>Bn .add b (.int .i64 1) fun b=>Bn .rem b (.int .i64 3) fun c=>Bn .eql c (.int .i64 0) fun c=>Ix 3 x0 (g a 1) fun d=>Sg 2 d c fun _=>Bn .add b (.int .i64 1) fun b=>Bn .add (g a 1) (.int .i64 1) fun a=>.leaf 0 [b,a]) (.leaf 2 [g a 0,g a 1])) fun a b=>ak a 1 (.leaf 1 b) (ak a 2 (.fin [.val (g b 0)]) .bad)
theorem aac (x0 x1:AV):CC Tryz.prog Ho [x0,x1] (Z7 x0 x1):=cc Tryz.func59 [0,1,5] (fun _=>[])
def Z8 (x0 x1:AV):Prog:=.loop [x1,.int .i64 0] (fun a=>Ln 0 x0 fun b=>Bn .lss (g a 1) b fun b=>.ite b (Ix 3 x0 (g a 1) fun b=>Lg 0 b fun b=>Bn .neq b (g a 0) fun b=>.ite b (.fin [.val (.int .i64 (-1))]) (Bn .add (g a 0) (.int .i64 1) fun b=>Ix 3 x0 (g a 1) fun c=>Lg 1 c fun c=>Bn .neq c b fun c=>.ite c (.fin [.val (.int .i64 (-1))]) (Bn .add b (.int .i64 1) fun b=>Ix 3 x0 (g a 1) fun c=>Lg 2 c fun c=>Bn .rem b (.int .i64 3) fun d=>Bn .eql d (.int .i64 0) fun d=>.op (.bin 2 .neq c d) fun c=>.ite c (.fin [.val (.int .i64 (-1))]) (Bn .add b (.int .i64 1) fun b=>Bn .add (g a 1) (.int .i64 1) fun a=>.leaf 0 [b,a])))) (.leaf 2 [g a 0,g a 1])) fun a b=>ak a 1 (.leaf 1 b) (ak a 2 (.fin [.val (g b 0)]) .bad)
theorem aad (x0 x1:AV):CC Tryz.prog Hq [x0,x1] (Z8 x0 x1):=cc Tryz.func67 [0,1,5] (fun _=>[])
end
theorem Z5:kV bg Tryz.prog Ho:=fun xs v F n m h r o h0 h1=>aac _ _ (Prog.jd _ (l7 (w:=3) rfl (ss:=[([0],.i),([1],.i),([2],.b)]) (fun x _=>by simp[MOk,Fld.f]) r o h0 h1) fun _ _ _ x=>x)
theorem Z6:kW bg Tryz.prog Hq:=fun xs v F m h r h0 h1=>reader (aad _ _) (by simp only[old]) (mg (w:=3) rfl (ss:=[([0],.i),([1],.i),([2],.b)]) (fun x _=>by simp[HOk,Fld.f]) r h0 h1)
end Go.Proofs.YtekfdoknfcedpaaGreat
end
section
set_option linter.unusedSimpArgs false
set_option linter.unusedVariables false
set_option maxHeartbeats 8000000
namespace Go.Proofs.YtekfdoknfcedpaaGreat
open Go Go.Ab
section
def adJ (x0 x1:AV):Prog:=.loop [x1,.int .i64 0] (fun a=>Ln 0 x0 fun b=>Bn .lss (g a 1) b fun b=>.ite b (Ix 5 x0 (g a 1) fun b=>Sg 0 b (g a 0) fun _=>Bn .add (g a 0) (.int .i64 1) fun b=>Ix 5 x0 (g a 1) fun c=>Sg 1 c b fun _=>Bn .add b (.int .i64 1) fun b=>Cl iF [b] fun c=>Ix 5 x0 (g a 1) fun d=>Sg 2 d c fun _=>Bn .add b (.int .i64 1) fun b=>Cl iF [b] fun c=>Ix 5 x0 (g a 1) fun d=>Sg 3 d c fun _=>Bn .add b (.int .i64 1) fun b=>Ix 5 x0 (g a 1) fun c=>Lg 4 c fun c=>Cl qy [c,b] fun b=>Bn .add (g a 1) (.int .i64 1) fun a=>.leaf 0 [b,a]) (.leaf 2 [g a 0,g a 1])) fun a b=>ak a 1 (.leaf 1 b) (ak a 2 (.fin [.val (g b 0)]) .bad)
theorem ad7 (x0 x1:AV):CC Tryz.prog qy [x0,x1] (adJ x0 x1):=cc Tryz.func226 [0,1,5] (fun _=>[])
def adK (x0 x1:AV):Prog:=.loop [x1,.int .i64 0] (fun a=>Ln 0 x0 fun b=>Bn .lss (g a 1) b fun b=>.ite b (Ix 5 x0 (g a 1) fun b=>Lg 0 b fun b=>Bn .neq b (g a 0) fun b=>.ite b (.fin [.val (.int .i64 (-1))]) (Bn .add (g a 0) (.int .i64 1) fun b=>Ix 5 x0 (g a 1) fun c=>Lg 1 c fun c=>Bn .neq c b fun c=>.ite c (.fin [.val (.int .i64 (-1))]) (Bn .add b (.int .i64 1) fun b=>Ix 5 x0 (g a 1) fun c=>.op (.fad 2 c) fun c=>.op (.ld1 c) fun d=>Cl iF [b] fun e=>.chk (.ld1 c) d (.op (.bin 1 .neq d e) fun c=>.ite c (.fin [.val (.int .i64 (-1))]) (Bn .add b (.int .i64 1) fun b=>Ix 5 x0 (g a 1) fun c=>.op (.fad 3 c) fun c=>.op (.ld1 c) fun d=>Cl iF [b] fun e=>.chk (.ld1 c) d (.op (.bin 1 .neq d e) fun c=>.ite c (.fin [.val (.int .i64 (-1))]) (Bn .add b (.int .i64 1) fun b=>Ix 5 x0 (g a 1) fun c=>Lg 4 c fun c=>Cl oI [c,b] fun b=>Bn .lss b (.int .i64 0) fun c=>.ite c (.fin [.val (.int .i64 (-1))]) (Bn .add (g a 1) (.int .i64 1) fun a=>.leaf 0 [b,a])))))))) (.leaf 2 [g a 0,g a 1])) fun a b=>ak a 1 (.leaf 1 b) (ak a 2 (.fin [.val (g b 0)]) .bad)
theorem ad9 (x0 x1:AV):CC Tryz.prog oI [x0,x1] (adK x0 x1):=cc Tryz.func228 [0,1,5] (fun r=>if r=10 then[(0,[]),(1,[]),(2,[]),(3,[]),(4,[]),(5,[]),(6,[4]),(7,[])] else if r=13 then[(0,[]),(1,[]),(2,[]),(3,[]),(4,[]),(5,[]),(6,[4]),(7,[])] else[])
def Qe (x0 x1:AV):Prog:=.op (.box x0) fun a=>Lg 4 a fun a=>Cl qy [a,x1] fun a=>.fin [.val a]
theorem af7 (x0 x1:AV):CC Tryz.prog Jm [x0,x1] (Qe x0 x1):=cc Tryz.func143
def Qf (x0 x1:AV):Prog:=.op (.box x0) fun a=>Lg 4 a fun a=>Cl oI [a,x1] fun a=>Bn .lss a (.int .i64 0) fun b=>.ite b (.fin [.val (.int .i64 (-1))]) (.fin [.val a])
theorem af8 (x0 x1:AV):CC Tryz.prog Dq [x0,x1] (Qf x0 x1):=cc Tryz.func146
def OE (x0 x1:AV):Prog:=.op (.box x0) fun a=>.op (.fad 7 a) fun a=>Ld 5 a fun a=>Cl Jm [a,x1] fun a=>.fin [.val a]
theorem ad8 (x0 x1:AV):CC Tryz.prog IW [x0,x1] (OE x0 x1):=cc Tryz.func57
def OG (x0 x1:AV):Prog:=.op (.box x0) fun a=>.op (.fad 7 a) fun a=>Ld 5 a fun a=>Cl Dq [a,x1] fun a=>Bn .lss a (.int .i64 0) fun b=>.ite b (.fin [.val (.int .i64 (-1))]) (.fin [.val a])
theorem aea (x0 x1:AV):CC Tryz.prog IX [x0,x1] (OG x0 x1):=cc Tryz.func65
def aal (x0 x1:AV):Prog:=.loop [x1,.int .i64 0] (fun a=>Ln 0 x0 fun b=>Bn .lss (g a 1) b fun b=>.ite b (Ix 1 x0 (g a 1) fun b=>.op (.ld1 b) fun b=>Cl uZ [b,g a 0] fun b=>Bn .add (g a 1) (.int .i64 1) fun a=>.leaf 0 [b,a]) (.leaf 2 [g a 0,g a 1])) fun a b=>ak a 1 (.leaf 1 b) (ak a 2 (.fin [.val (g b 0)]) .bad)
theorem aar (x0 x1:AV):CC Tryz.prog Bo [x0,x1] (aal x0 x1):=cc Tryz.func145 [0,1,5] (fun _=>[])
def aan (x0 x1:AV):Prog:=.loop [x1,.int .i64 0] (fun a=>Ln 0 x0 fun b=>Bn .lss (g a 1) b fun b=>.ite b (Ix 1 x0 (g a 1) fun b=>.op (.ld1 b) fun b=>Cl vg [b,g a 0] fun b=>Bn .lss b (.int .i64 0) fun c=>.ite c (.fin [.val (.int .i64 (-1))]) (Bn .add (g a 1) (.int .i64 1) fun a=>.leaf 0 [b,a])) (.leaf 2 [g a 0,g a 1])) fun a b=>ak a 1 (.leaf 1 b) (ak a 2 (.fin [.val (g b 0)]) .bad)
theorem aat (x0 x1:AV):CC Tryz.prog Bp [x0,x1] (aan x0 x1):=cc Tryz.func148 [0,1,5] (fun _=>[])
def NJ (x0 x1:AV):Prog:=.op (.box x0) fun a=>Lg 1 a fun b=>Cl Bo [b,x1] fun b=>Lg 2 a fun c=>Cl Bo [c,b] fun b=>Lg 3 a fun a=>Cl uZ [a,b] fun a=>.fin [.val a]
theorem acu (x0 x1:AV):CC Tryz.prog Ij [x0,x1] (NJ x0 x1):=cc Tryz.func60
def NM (x0 x1:AV):Prog:=.op (.box x0) fun a=>Lg 1 a fun b=>Cl Bp [b,x1] fun b=>Bn .lss b (.int .i64 0) fun c=>.ite c (.fin [.val (.int .i64 (-1))]) (Lg 2 a fun c=>Cl Bp [c,b] fun b=>Bn .lss b (.int .i64 0) fun c=>.ite c (.fin [.val (.int .i64 (-1))]) (Lg 3 a fun a=>Cl vg [a,b] fun a=>Bn .lss a (.int .i64 0) fun b=>.ite b (.fin [.val (.int .i64 (-1))]) (.fin [.val a])))
theorem acC (x0 x1:AV):CC Tryz.prog Im [x0,x1] (NM x0 x1):=cc Tryz.func68
end
theorem Ul (xs:List Pol) (ih:∀ x∈xs,Ar Pol Tryz.prog qy x.l):Ar Pol Tryz.prog qy xs:=fun v F n m h r o h0 h1=>ad7 _ _ (Prog.jd _ (l7 (w:=5) rfl (ss:=[([0],.i),([1],.i),([2],.s iF),([3],.s iF),([4],.l qy)]) (fun x hx=>by
 have:=ih x hx
 cases x with
 |mk k n s t l=>simp only[MOk,Fld.f,Ci,List.sum_cons,List.sum_nil];simpa[Pol.l] using this) r o h0 h1) fun _ _ _ x=>x)
theorem adl:kV Pol Tryz.prog qy:=fun xs=>Ul xs fun x _=>lQ (p:=fun x=>Ar Pol Tryz.prog qy x.l) (fun x ih=>Ul x.l ih) x
theorem Ur (xs:List Pol) (ih:∀ x∈xs,Au Pol Tryz.prog oI x.l):Au Pol Tryz.prog oI xs:=fun v F m h r h0 h1=>reader (ad9 _ _) (by simp only[old]) (mg (w:=5) rfl (ss:=[([0],.i),([1],.i),([2],.s iF),([3],.s iF),([4],.l oI)]) (fun x hx=>by
 have:=ih x hx
 cases x with
 |mk k n s t l=>simp only[HOk,Fld.f,Ci,List.sum_cons,List.sum_nil];simpa[Pol.l] using this) r h0 h1)
theorem ado:kW Pol Tryz.prog oI:=fun xs=>Ur xs fun x _=>lQ (p:=fun x=>Au Pol Tryz.prog oI x.l) (fun x ih=>Ur x.l ih) x
theorem aeY {x:Pol} {v:AV} {F:List Nat} {n:Nat} {m:Int} {h:AH} (r:aj h v x.l F) (o:Own n h F) (h0:0≤m) (h1:(mks m x.l).2≤1099511627776):bE Tryz.prog Jm [.agg (x.cs v),.int .i64 m] h fun r h'=>r= .int .i64 (mks m x.l).2∧Kp h h' F∧aj h' v (mks m x.l).1 F∧Own n h' F:=by
 refine af7 _ _ ?_
 unfold Qe
 (repeat' first|refine vs ?_|fail)
 refine aG (adl _ _ F n _ _ ah (o.ext ((Ext.refl h).push _) r.lt) h0 h1) ?_
 rintro _ h2 ⟨rfl,k2,q2,o2⟩
 (repeat' first|refine vs ?_|fail)
 exact⟨rfl,_,rfl,rfl,(Kp.gY ((Ext.refl h).push _)).trans k2,q2,o2⟩
theorem aeZ {x:Pol} {v:AV} {F:List Nat} {m:Int} {h:AH} (r:aj h v (mks m x.l).1 F) (h0:0≤m) (h1:(mks m x.l).2≤1099511627776):aO Tryz.prog Dq [.agg (x.cs v),.int .i64 m] h (.int .i64 (mks m x.l).2):=by
 refine reader (af8 _ _) (by simp only[old]) ?_
 unfold Qf
 have hup:=cK x.l m
 (repeat' first|refine vs ?_|(refine br ?_ ?_<;>first|exact bo|intro _)|((with_reducible refine ay oI ?_);refine aK (ado _ _ _ _ _ ah h0 h1) ?_)|fail)
 all_goals exact pi rfl
theorem adn {x:gD} {v:AV} {F:List Nat} {n:Nat} {m:Int} {h:AH} (r:aj h v x.rule.l F) (o:Own n h F) (h0:0≤m) (h1:(mks m x.rule.l).2≤1099511627776):bE Tryz.prog IW [.agg (x.cs v),.int .i64 m] h fun r h'=>r= .int .i64 (mks m x.rule.l).2∧Kp h h' F∧aj h' v (mks m x.rule.l).1 F∧Own n h' F:=by
 refine ad8 _ _ ?_
 unfold OE
 (repeat' first|refine vs ?_|fail)
 refine aG (aeY (x:=x.rule) (F:=F) (n:=n) ah (o.ext ((Ext.refl h).push _) r.lt) h0 h1) ?_
 rintro _ h2 ⟨rfl,k2,q2,o2⟩
 (repeat' first|refine vs ?_|fail)
 exact⟨rfl,_,rfl,rfl,(Kp.gY ((Ext.refl h).push _)).trans k2,q2,o2⟩
theorem adp {x:gD} {v:AV} {F:List Nat} {m:Int} {h:AH} (r:aj h v (mks m x.rule.l).1 F) (h0:0≤m) (h1:(mks m x.rule.l).2≤1099511627776):aO Tryz.prog IX [.agg (x.cs v),.int .i64 m] h (.int .i64 (mks m x.rule.l).2):=by
 refine reader (aea _ _) (by simp only[old]) ?_
 unfold OG
 have hup:=cK x.rule.l m
 (repeat' first|refine vs ?_|(refine br ?_ ?_<;>first|exact bo|intro _)|((with_reducible refine ay Dq ?_);refine aK (aeZ (x:=x.rule) ah h0 h1) ?_)|fail)
 all_goals exact pi rfl
theorem MW:kV (List Ab.Timer) Tryz.prog Bo:=fun xs v F n m h r o h0 h1=>aar _ _ (Prog.jd _ (l7 (w:=1) rfl (ss:=[([],.l uZ)]) (fun x _=>by simp[MOk,Fld.f,Hz.x]) r o h0 h1) fun _ _ _ x=>x)
theorem MX:kW (List Ab.Timer) Tryz.prog Bp:=fun xs v F m h r h0 h1=>reader (aat _ _) (by simp only[old]) (mg (w:=1) rfl (ss:=[([],.l vg)]) (fun x _=>by simp[HOk,Fld.f,HV.x]) r h0 h1)
theorem lI {n n':Nat} {h h':AH} {F G:List Nat} (o:Own n h F) (lt:∀ b∈F,b < h.n) (k:Kp h h' G) (g:Own n' h' G):Own n h' F:=⟨o.1,fun b hb=>⟨(o.2 b hb).1,by
 by_cases hg:b∈G
 ·exact(g.2 b hg).2
 ·rw[k.2 b (lt b hb) hg];exact(o.2 b hb).2⟩⟩
def jh (m:Int) (x:bD):bD × Int:=(⟨x.now,(mks m x.near).1,(mks (mks m x.near).2 x.far).1,(mks (mks (mks m x.near).2 x.far).2 x.rest).1⟩,(mks (mks (mks m x.near).2 x.far).2 x.rest).2)
theorem Ka (m:Int) (x:bD):m≤(jh m x).2:=by
 have:=cK x.near m
 have:=cK x.far (mks m x.near).2
 have:=cK x.rest (mks (mks m x.near).2 x.far).2
 show m≤(mks (mks (mks m x.near).2 x.far).2 x.rest).2
 omega
theorem abo {x:bD} {v0 v1 v2:AV} {F0 F1 F2:List Nat} {n:Nat} {m:Int} {h:AH} (r0:aj h v0 x.near F0) (r1:aj h v1 x.far F1) (r2:aj h v2 x.rest F2) (o:Own n h (F0++(F1++F2))) (h0:0≤m) (h1:(jh m x).2≤1099511627776):
  bE Tryz.prog Ij [.agg (x.cs v0 v1 v2),.int .i64 m] h fun r h'=>r= .int .i64 (jh m x).2∧Kp h h' (F0++(F1++F2))∧aj h' v0 (jh m x).1.near F0∧aj h' v1 (jh m x).1.far F1∧aj h' v2 (jh m x).1.rest F2∧Own n h' (F0++(F1++F2)):=by
 have o0:=bU o
 have o1:=bU (aJ o)
 have o2:=aJ (aJ o)
 have d01:=bY (gq o)
 have d02:=aH (gq o)
 have d12:=gq (aJ o)
 have d10:∀ c∈F1,c ∉ F0:=fun c a b=>d01 c b a
 have d20:∀ c∈F2,c ∉ F0:=fun c a b=>d02 c b a
 have d21:∀ c∈F2,c ∉ F1:=fun c a b=>d12 c b a
 have u0:=cK x.near m
 have u1:=cK x.far (mks m x.near).2
 have u2:=cK x.rest (mks (mks m x.near).2 x.far).2
 have hm:(mks (mks (mks m x.near).2 x.far).2 x.rest).2≤1099511627776:=h1
 refine acu _ _ ?_
 unfold NJ
 refine kP rfl ?_
 obtain⟨H,hH⟩:∃ H,H=h.push ⟨x.cs v0 v1 v2,0,0⟩:=⟨_,rfl⟩
 rw[←hH]
 have e:Ext h H:=by rw[hH];exact(Ext.refl h).push _
 have b:Bk H h.n (x.cs v0 v1 v2) 0:=by rw[hH];exact fE
 have K:Kp h H (F0++(F1++F2)):=Kp.gY e
 have lt:∀ c∈F0++(F1++F2),c < h.n:=fun c hc=>by
  simp only[List.mem_append] at hc
  rcases hc with g|g|g
  ·exact r0.lt c g
  ·exact r1.lt c g
  ·exact r2.lt c g
 have nb0:h.n ∉ F0:=fun g=>Nat.lt_irrefl _ (lt _ (by simp[g]))
 have nb1:h.n ∉ F1:=fun g=>Nat.lt_irrefl _ (lt _ (by simp[g]))
 have OO:=o.ext e lt
 replace o0:=o0.ext e r0.lt
 replace o1:=o1.ext e r1.lt
 replace o2:=o2.ext e r2.lt
 have LT:∀ c∈F0++(F1++F2),c < H.n:=fun c hc=>Nat.lt_of_lt_of_le (lt c hc) e.1
 replace r0:=r0.ext e
 replace r1:=r1.ext e
 replace r2:=r2.ext e
 clear e hH
 (repeat' first|refine vs ?_|fail)
 refine aG (MW _ _ F0 n _ _ r0 o0 h0 (by omega)) ?_
 rintro _ h2 ⟨rfl,k1,q0,p0⟩
 replace OO:=lI OO LT k1 p0
 replace LT:∀ c∈F0++(F1++F2),c < h2.n:=fun c hc=>Nat.lt_of_lt_of_le (LT c hc) k1.1
 replace o1:=(bq k1 ⟨o1,r1.lt⟩ d10).1
 replace o2:=(bq k1 ⟨o2,r2.lt⟩ d20).1
 replace r1:=aC k1 r1 d10
 replace r2:=aC k1 r2 d20
 replace b:=bJ k1 b nb0
 replace K:=K.trans (k1.mono fun c hc=>by simp[hc])
 clear k1
 (repeat' first|refine vs ?_|fail)
 refine aG (MW _ _ F1 n _ _ r1 o1 (by omega) (by omega)) ?_
 rintro _ h3 ⟨rfl,k1,q1,p1⟩
 replace OO:=lI OO LT k1 p1
 replace LT:∀ c∈F0++(F1++F2),c < h3.n:=fun c hc=>Nat.lt_of_lt_of_le (LT c hc) k1.1
 replace o2:=(bq k1 ⟨o2,r2.lt⟩ d21).1
 replace q0:=aC k1 q0 d01
 replace r2:=aC k1 r2 d21
 replace b:=bJ k1 b nb1
 replace K:=K.trans (k1.mono fun c hc=>by simp[hc])
 clear k1
 (repeat' first|refine vs ?_|fail)
 refine aG (Hz _ _ F2 n _ _ r2 o2 (by omega) (by omega)) ?_
 rintro _ h4 ⟨rfl,k1,q2,p2⟩
 replace OO:=lI OO LT k1 p2
 replace q0:=aC k1 q0 d02
 replace q1:=aC k1 q1 d12
 replace K:=K.trans (k1.mono fun c hc=>by simp[hc])
 clear k1
 (repeat' first|refine vs ?_|fail)
 exact⟨rfl,_,rfl,rfl,K,q0,q1,q2,OO⟩
theorem abt {x:bD} {v0 v1 v2:AV} {F0 F1 F2:List Nat} {m:Int} {h:AH} (r0:aj h v0 (jh m x).1.near F0) (r1:aj h v1 (jh m x).1.far F1) (r2:aj h v2 (jh m x).1.rest F2) (h0:0≤m) (h1:(jh m x).2≤1099511627776):
  aO Tryz.prog Im [.agg (x.cs v0 v1 v2),.int .i64 m] h (.int .i64 (jh m x).2):=by
 have u0:=cK x.near m
 have u1:=cK x.far (mks m x.near).2
 have u2:=cK x.rest (mks (mks m x.near).2 x.far).2
 have hm:(mks (mks (mks m x.near).2 x.far).2 x.rest).2≤1099511627776:=h1
 refine reader (acC _ _) (by simp only[old]) ?_
 unfold NM
 (repeat' first|refine vs ?_|fail)
 refine aK (MX x.near v0 F0 m _ (r0.ext ((Ext.refl h).push _)) h0 (by omega)) ?_
 (repeat' first|refine vs ?_|(refine br ?_ ?_<;>first|exact bo|intro _)|fail)
 refine aK (MX x.far v1 F1 _ _ (r1.ext ((Ext.refl h).push _)) (by omega) (by omega)) ?_
 (repeat' first|refine vs ?_|(refine br ?_ ?_<;>first|exact bo|intro _)|fail)
 refine aK (HV x.rest v2 F2 _ _ (r2.ext ((Ext.refl h).push _)) (by omega) (by omega)) ?_
 (repeat' first|refine vs ?_|(refine br ?_ ?_<;>first|exact bo|intro _)|fail)
 exact pi rfl
end Go.Proofs.YtekfdoknfcedpaaGreat
end
