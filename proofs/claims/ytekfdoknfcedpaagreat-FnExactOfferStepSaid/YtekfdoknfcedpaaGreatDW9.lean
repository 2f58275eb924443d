import Derived.Test.YtekfdoknfcedpaaGreatDKW1
set_option linter.unusedSimpArgs false
set_option linter.unusedVariables false
set_option maxHeartbeats 1000000
namespace Go.Proofs.YtekfdoknfcedpaaGreat
open Go Go.Ab
section
def NS (x0:AV):Prog:=.op (.box x0) fun a=>Lg 1 a fun b=>Bn .eql b (.int .i64 0) fun b=>Gf b true 2 a fun c=>.gop b true (.bin 1 .eql c (.str ⟨#[]⟩)) fun c=>Pk b c (.bool false) fun b=>Gf b true 3 a fun c=>.gop b true (.bin 1 .eql c (.str ⟨#[]⟩)) fun c=>Pk b c (.bool false) fun b=>Lg 0 a fun c=>Bn .eql c (.int .i64 1) fun d=>.scope (.ite d (.leaf 0 [d]) (Bn .eql c (.int .i64 2) fun a=>.scope (.ite a (.leaf 0 [a]) (Bn .eql c (.int .i64 6) fun a=>.leaf 0 [a])) (fun a=>.leaf 0 [g a 0]) fun a b=>ak a 1 (.leaf 1 b) .bad)) (fun d=>.ite (g d 0) (Gf b true 4 a fun a=>.gop b true (.len 0 a) fun a=>.gop b true (.bin 0 .eql a (.int .i64 0)) fun a=>Pk b a (.bool false) fun a=>.fin [.val a]) (Bn .eql c (.int .i64 3) fun d=>.ite d (Lg 1 a fun b=>Cl bA [b,.int .i64 0,.int .i64 2147483647] fun b=>Gf b true 2 a fun c=>.gop b true (.bin 1 .eql c (.str ⟨#[]⟩)) fun c=>Pk b c (.bool false) fun b=>Gf b true 3 a fun c=>.gop b true (.bin 1 .eql c (.str ⟨#[]⟩)) fun c=>Pk b c (.bool false) fun b=>Gf b true 4 a fun a=>.gop b true (.len 0 a) fun a=>.gop b true (.bin 0 .eql a (.int .i64 0)) fun a=>Pk b a (.bool false) fun a=>.fin [.val a]) (Bn .eql c (.int .i64 4) fun d=>.ite d (Lg 1 a fun b=>Bn .eql b (.int .i64 0) fun b=>Gf b true 2 a fun c=>.gop b true (.call qH [c]) fun c=>Pk b c (.bool false) fun b=>Gf b true 3 a fun c=>.gop b true (.call vR [c]) fun c=>Pk b c (.bool false) fun b=>Gf b true 4 a fun a=>.gop b true (.len 0 a) fun a=>.gop b true (.bin 0 .eql a (.int .i64 0)) fun a=>Pk b a (.bool false) fun a=>.fin [.val a]) (Bn .eql c (.int .i64 5) fun d=>.ite d (Lg 1 a fun b=>Cl bA [b,.int .i64 0,.int .i64 2147483647] fun b=>Gf b true 2 a fun c=>.gop b true (.call qH [c]) fun c=>Pk b c (.bool false) fun b=>Gf b true 3 a fun c=>.gop b true (.bin 1 .eql c (.str ⟨#[]⟩)) fun c=>Pk b c (.bool false) fun b=>Gf b true 4 a fun a=>.gop b true (.len 0 a) fun a=>.gop b true (.bin 0 .eql a (.int .i64 0)) fun a=>Pk b a (.bool false) fun a=>.fin [.val a]) (Bn .eql c (.int .i64 7) fun d=>.scope (.ite d (.leaf 0 [d]) (Bn .eql c (.int .i64 8) fun a=>.leaf 0 [a])) (fun d=>.ite (g d 0) (Gf b true 4 a fun a=>.gop b true (.len 0 a) fun a=>.gop b true (.call bA [a,.int .i64 1,.int .i64 4]) fun a=>Pk b a (.bool false) fun a=>.fin [.val a]) (Bn .eql c (.int .i64 9) fun c=>.ite c (Gf b true 4 a fun a=>.gop b true (.len 0 a) fun a=>.gop b true (.bin 0 .eql a (.int .i64 1)) fun a=>Pk b a (.bool false) fun a=>.fin [.val a]) (.fin [.val (.bool false)]))) fun a b=>ak a 1 (.leaf 1 b) .bad))))) fun a b=>ak a 1 (.leaf 1 b) .bad
theorem acN (x0:AV):CC Tryz.prog BX [x0] (NS x0):=cc Tryz.func332 [1,3,18,19,93] (fun _=>[])
def R3 (x0:AV):Prog:=.op (.box x0) fun a=>Lg 0 a fun b=>Bn .eql b (.int .i64 1) fun c=>.scope (.ite c (.leaf 0 [c]) (Bn .eql b (.int .i64 2) fun a=>.scope (.ite a (.leaf 0 [a]) (Bn .eql b (.int .i64 6) fun a=>.leaf 0 [a])) (fun a=>.leaf 0 [g a 0]) fun a b=>ak a 1 (.leaf 1 b) .bad)) (fun c=>.ite (g c 0) (Lg 1 a fun b=>Bn .eql b (.int .i64 0) fun b=>Gf b true 2 a fun c=>.gop b true (.bin 1 .eql c (.str ⟨#[]⟩)) fun c=>Pk b c (.bool false) fun b=>Gf b true 3 a fun c=>.gop b true (.bin 1 .eql c (.str ⟨#[]⟩)) fun c=>Pk b c (.bool false) fun b=>Gf b true 4 a fun a=>.gop b true (.len 0 a) fun a=>.gop b true (.bin 0 .eql a (.int .i64 0)) fun a=>Pk b a (.bool false) fun a=>.fin [.val a]) (Bn .eql b (.int .i64 3) fun c=>.ite c (Lg 1 a fun b=>Cl bI [b,.int .i64 0,.int .i64 2147483647] fun b=>Gf b true 2 a fun c=>.gop b true (.bin 1 .eql c (.str ⟨#[]⟩)) fun c=>Pk b c (.bool false) fun b=>Gf b true 3 a fun c=>.gop b true (.bin 1 .eql c (.str ⟨#[]⟩)) fun c=>Pk b c (.bool false) fun b=>Gf b true 4 a fun a=>.gop b true (.len 0 a) fun a=>.gop b true (.bin 0 .eql a (.int .i64 0)) fun a=>Pk b a (.bool false) fun a=>.fin [.val a]) (Bn .eql b (.int .i64 4) fun c=>.ite c (Lg 1 a fun b=>Bn .eql b (.int .i64 0) fun b=>Gf b true 2 a fun c=>.gop b true (.call tq [c]) fun c=>Pk b c (.bool false) fun b=>Gf b true 3 a fun c=>.gop b true (.call vK [c]) fun c=>Pk b c (.bool false) fun b=>Gf b true 4 a fun a=>.gop b true (.len 0 a) fun a=>.gop b true (.bin 0 .eql a (.int .i64 0)) fun a=>Pk b a (.bool false) fun a=>.fin [.val a]) (Bn .eql b (.int .i64 5) fun c=>.ite c (Lg 1 a fun b=>Cl bI [b,.int .i64 0,.int .i64 2147483647] fun b=>Gf b true 2 a fun c=>.gop b true (.call tq [c]) fun c=>Pk b c (.bool false) fun b=>Gf b true 3 a fun c=>.gop b true (.bin 1 .eql c (.str ⟨#[]⟩)) fun c=>Pk b c (.bool false) fun b=>Gf b true 4 a fun a=>.gop b true (.len 0 a) fun a=>.gop b true (.bin 0 .eql a (.int .i64 0)) fun a=>Pk b a (.bool false) fun a=>.fin [.val a]) (Bn .eql b (.int .i64 7) fun c=>.scope (.ite c (.leaf 0 [c]) (Bn .eql b (.int .i64 8) fun a=>.leaf 0 [a])) (fun b=>.ite (g b 0) (Lg 1 a fun b=>Bn .eql b (.int .i64 0) fun b=>Gf b true 2 a fun c=>.gop b true (.bin 1 .eql c (.str ⟨#[]⟩)) fun c=>Pk b c (.bool false) fun b=>Gf b true 3 a fun c=>.gop b true (.bin 1 .eql c (.str ⟨#[]⟩)) fun c=>Pk b c (.bool false) fun b=>Gf b true 4 a fun a=>.gop b true (.len 0 a) fun a=>.gop b true (.call bI [a,.int .i64 1,.int .i64 4]) fun a=>Pk b a (.bool false) fun a=>.fin [.val a]) (Lg 0 a fun b=>Bn .eql b (.int .i64 9) fun b=>Gf b true 1 a fun c=>.gop b true (.bin 0 .eql c (.int .i64 0)) fun c=>Pk b c (.bool false) fun b=>Gf b true 2 a fun c=>.gop b true (.bin 1 .eql c (.str ⟨#[]⟩)) fun c=>Pk b c (.bool false) fun b=>Gf b true 3 a fun c=>.gop b true (.bin 1 .eql c (.str ⟨#[]⟩)) fun c=>Pk b c (.bool false) fun b=>Gf b true 4 a fun a=>.gop b true (.len 0 a) fun a=>.gop b true (.bin 0 .eql a (.int .i64 1)) fun a=>Pk b a (.bool false) fun a=>.fin [.val a])) fun a b=>ak a 1 (.leaf 1 b) .bad))))) fun a b=>ak a 1 (.leaf 1 b) .bad
theorem aij (x0:AV):CC Tryz.prog Ee [x0] (R3 x0):=cc Tryz.func309 [1,4,5,91] (fun _=>[])
def OP (x0 x1:AV):Prog:=.op (.box x0) fun a=>Bn .gtr x1 (.int .i64 4) fun b=>.gop b false (.ldn 5 a) fun c=>.gop b false (.call BX [c]) fun c=>.gop b false (.una .not c) fun c=>Pk b (.bool true) c fun b=>.ite b (.fin [.val (.int .i64 13)]) (Lg 4 a fun a=>Ln 0 a fun b=>.loop [.int .i64 1,.int .i64 0] (fun c=>Bn .lss (g c 1) b fun b=>.ite b (Ix 5 a (g c 1) fun a=>Ld 5 a fun a=>.op (.alloc kN) fun b=>.op (.st 5 b a) fun _=>Ld 5 b fun a=>Bn .add x1 (.int .i64 1) fun b=>Cl sK [a,b] fun a=>Bn .add (g c 0) a fun a=>Bn .geq a (.int .i64 13) fun b=>.ite b (.fin [.val (.int .i64 13)]) (Bn .add (g c 1) (.int .i64 1) fun b=>.leaf 0 [a,b])) (.leaf 2 [g c 0,g c 1])) fun a b=>ak a 1 (.leaf 1 b) (ak a 2 (.fin [.val (g b 0)]) .bad))
theorem aei (x0 x1:AV):CC Tryz.prog sK [x0,x1] (OP x0 x1):=cc Tryz.func315 [1,5,16,17,18] (fun _=>[])
def QN (x0 x1:AV):Prog:=.op (.box x0) fun a=>Bn .gtr x1 (.int .i64 4) fun b=>.gop b false (.ldn 5 a) fun c=>.gop b false (.call Ee [c]) fun c=>.gop b false (.una .not c) fun c=>Pk b (.bool true) c fun b=>.ite b (.fin [.val (.bool false)]) (.loop [.int .i64 0] (fun b=>Lg 4 a fun c=>Ln 0 c fun c=>Bn .lss (g b 0) c fun c=>.ite c (Lg 4 a fun a=>Ix 5 a (g b 0) fun a=>Ld 5 a fun a=>Bn .add x1 (.int .i64 1) fun c=>Cl sW [a,c] fun a=>.op (.una .not a) fun a=>.ite a (.fin [.val (.bool false)]) (Bn .add (g b 0) (.int .i64 1) fun a=>.leaf 0 [a])) (.leaf 2 [g b 0])) fun a b=>ak a 1 (.leaf 1 b) (ak a 2 (.fin [.val (.bool true)]) .bad))
theorem ahd (x0 x1:AV):CC Tryz.prog sW [x0,x1] (QN x0 x1):=cc Tryz.func250 [1,2,5] (fun _=>[])
def Ov (x0:AV):Prog:=.op (.box x0) fun a=>.loop [.int .i64 1,.int .i64 0] (fun b=>Lg 4 a fun c=>Ln 0 c fun c=>Bn .lss (g b 1) c fun c=>.ite c (Lg 4 a fun a=>Ix 5 a (g b 1) fun a=>Ld 5 a fun a=>Cl sG [a] fun a=>Bn .add (g b 0) a fun a=>Bn .add (g b 1) (.int .i64 1) fun b=>.leaf 0 [a,b]) (.leaf 2 [g b 0,g b 1])) fun a b=>ak a 1 (.leaf 1 b) (ak a 2 (.fin [.val (g b 0)]) .bad)
theorem adT (x0:AV):CC Tryz.prog sG [x0] (Ov x0):=cc Tryz.func249 [1,3,4] (fun _=>[])
def R4 (x0:AV):Prog:=.op (.box x0) fun a=>Ld 5 a fun b=>Cl sG [b] fun b=>Bn .leq b (.int .i64 12) fun b=>.gop b true (.ldn 5 a) fun a=>.gop b true (.call sW [a,.int .i64 1]) fun a=>Pk b a (.bool false) fun a=>.fin [.val a]
theorem ail (x0:AV):CC Tryz.prog Eh [x0] (R4 x0):=cc Tryz.func173
def Sc (x0:AV):Prog:=.op (.box x0) fun a=>Ld 5 a fun a=>Cl sK [a,.int .i64 1] fun a=>Bn .leq a (.int .i64 12) fun a=>.fin [.val a]
theorem ait (x0:AV):CC Tryz.prog Ej [x0] (Sc x0):=cc Tryz.func266
def RG (x0:AV):Prog:=.op (.box x0) fun a=>Lg 0 a fun b=>Cl bA [b,.int .i64 1,.int .i64 3] fun b=>Gf b true 1 a fun c=>.gop b true (.call bA [c,.int .i64 1,.int .i64 50]) fun c=>Pk b c (.bool false) fun b=>Gf b true 2 a fun c=>.gop b true (.call bA [c,.int .i64 1,.int .i64 190]) fun c=>Pk b c (.bool false) fun b=>Gf b true 3 a fun c=>.gop b true (.call bA [c,.int .i64 1,.int .i64 6]) fun c=>Pk b c (.bool false) fun b=>Gf b true 4 a fun c=>.gop b true (.call bA [c,.int .i64 1,.int .i64 4]) fun c=>Pk b c (.bool false) fun b=>Gf b true 5 a fun c=>.gop b true (.call bA [c,.int .i64 0,.int .i64 99]) fun c=>Pk b c (.bool false) fun b=>Gf b true 6 a fun c=>.gop b true (.call bA [c,.int .i64 0,.int .i64 999]) fun c=>Pk b c (.bool false) fun b=>.gop b true (.fad 7 a) fun a=>.gop b true (.ldn 5 a) fun a=>.gop b true (.call Ej [a]) fun a=>Pk b a (.bool false) fun a=>.fin [.val a]
theorem ahY (x0:AV):CC Tryz.prog Eb [x0] (RG x0):=cc Tryz.func195
def Q6 (x0:AV):Prog:=.op (.box x0) fun a=>Lg 0 a fun b=>Cl bI [b,.int .i64 1,.int .i64 3] fun b=>Gf b true 1 a fun c=>.gop b true (.call bI [c,.int .i64 1,.int .i64 50]) fun c=>Pk b c (.bool false) fun b=>Gf b true 2 a fun c=>.gop b true (.call bI [c,.int .i64 1,.int .i64 190]) fun c=>Pk b c (.bool false) fun b=>Gf b true 3 a fun c=>.gop b true (.call bI [c,.int .i64 1,.int .i64 6]) fun c=>Pk b c (.bool false) fun b=>Gf b true 4 a fun c=>.gop b true (.call bI [c,.int .i64 1,.int .i64 4]) fun c=>Pk b c (.bool false) fun b=>Gf b true 5 a fun c=>.gop b true (.call bI [c,.int .i64 0,.int .i64 99]) fun c=>Pk b c (.bool false) fun b=>Gf b true 6 a fun c=>.gop b true (.call bI [c,.int .i64 0,.int .i64 999]) fun c=>Pk b c (.bool false) fun b=>.gop b true (.fad 7 a) fun a=>.gop b true (.ldn 5 a) fun a=>.gop b true (.call Eh [a]) fun a=>Pk b a (.bool false) fun a=>.fin [.val a]
theorem ahr (x0:AV):CC Tryz.prog DY [x0] (Q6 x0):=cc Tryz.func97
end
def kU (p:Pol):Prop:=p.n=0∧p.key=⟨#[]⟩∧p.text=⟨#[]⟩
def ko (p:Pol):Prop:=
 ((p.kind=1∨p.kind=2∨p.kind=6)∧kU p∧(p.l.length:Int)=0)∨
 (p.kind=3∧(0≤p.n∧p.n≤2147483647)∧p.key=⟨#[]⟩∧p.text=⟨#[]⟩∧(p.l.length:Int)=0)∨
 (p.kind=4∧p.n=0∧uw p.key∧EU p.text∧(p.l.length:Int)=0)∨
 (p.kind=5∧(0≤p.n∧p.n≤2147483647)∧uw p.key∧p.text=⟨#[]⟩∧(p.l.length:Int)=0)∨
 ((p.kind=7∨p.kind=8)∧kU p∧1≤(p.l.length:Int)∧(p.l.length:Int)≤4)∨
 (p.kind=9∧kU p∧(p.l.length:Int)=1)
theorem FI {p:Pol} (ok:Cel.ok p):p.key.size≤maxLen∧p.text.size≤maxLen∧∀ y∈p.l,Cel.ok y:=by
 cases p with
 |mk k n s t l=>exact⟨ok.2.2.1,ok.2.2.2.1,Pol.EX.1 ok.2.2.2.2⟩
theorem abA {h:AH} {p:Pol} {v:AV} {F:List Nat} (ok:Cel.ok p) (r:aj h v p.l F):aO Tryz.prog BX [.agg (p.cs v)] h (.bool (bp (ko p))):=by
 refine reader (acN _) (by simp only[old]) ?_
 unfold NS
 obtain⟨k1,k3,-⟩:=FI ok
 (repeat' first|refine vs ?_|(refine br ?_ ?_<;>first|exact bx|intro _)|((with_reducible refine ay qH ?_);(refine aU (QI k1) ?_ ?_<;>intro hn))|((with_reducible refine ay vR ?_);(refine aU (Po k3) ?_ ?_<;>intro hp))|((with_reducible refine ay bA ?_);(refine cZ gF ?_ ?_<;>intro hb<;>first|replace hb:=dD hb|replace hb:=dH hb))|((with_reducible refine bF ?_);simp only[g0,g1,g2]))
 all_goals first
  |(refine pt ?_;unfold ko kU;simp_all;done)
  |(refine pf ?_;unfold ko kU;simp_all;done)
  |(refine pf ?_;unfold ko kU;simp_all;omega)
  |(refine pt ?_;unfold ko kU;simp_all;omega)
  |(refine pf ?_;unfold ko kU;simp_all;intros;omega)
theorem ah4 {h:AH} {p:Pol} {v:AV} {F:List Nat} (ok:Cel.ok p) (r:aj h v p.l F):aO Tryz.prog Ee [.agg (p.cs v)] h (.bool (bp (ko p))):=by
 refine reader (aij _) (by simp only[old]) ?_
 unfold R3
 obtain⟨k1,k3,-⟩:=FI ok
 (repeat' first|refine vs ?_|(refine br ?_ ?_<;>first|exact bx|intro _)|((with_reducible refine ay tq ?_);(refine aU (QE k1) ?_ ?_<;>intro hn))|((with_reducible refine ay vK ?_);(refine aU (Pb k3) ?_ ?_<;>intro hp))|((with_reducible refine ay bI ?_);(refine cZ iw ?_ ?_<;>intro hb<;>first|replace hb:=dD hb|replace hb:=dH hb))|((with_reducible refine bF ?_);simp only[g0,g1,g2]))
 all_goals first
  |(refine pt ?_;unfold ko kU;simp_all;done)
  |(refine pf ?_;unfold ko kU;simp_all;done)
  |(refine pf ?_;unfold ko kU;simp_all;omega)
  |(refine pt ?_;unfold ko kU;simp_all;omega)
  |(refine pf ?_;unfold ko kU;simp_all;intros;omega)
mutual
def dX:Pol→Int
 | .mk _ _ _ _ l=>1+Ap l
def Ap:List Pol→Int
 |[]=>0
 |p::ps=>dX p+Ap ps
end
theorem Uv:∀ l:List Pol,Ap l=cO dX l
 |[]=>by simp[Ap,cO]
 |p::ps=>by simp only[Ap,cO,Uv ps]
theorem Fj (x:Pol):dX x=1+cO dX x.l:=by
 cases x with
 |mk k n s t l=>rw[←Uv];simp only[dX,Pol.l]
theorem ED {l:List Pol} (hb:∀ x∈l,1≤dX x∧dX x≤1+(Sz.sz x:Nat)):0≤cO dX l∧cO dX l≤l.length+(szs l:Nat):=by
 induction l with
 |nil=>simp[cO,szs]
 |cons x l ih=>
  have h1:=hb x (by simp);have h2:=ih fun y hy=>hb y (by simp[hy])
  simp only[cO,szs,List.length_cons];omega
theorem Af (x:Pol):1≤dX x∧dX x≤1+(Sz.sz x:Nat):=by
 refine lQ (p:=fun x=>1≤dX x∧dX x≤1+(Sz.sz x:Nat)) ?_ x
 intro x ih
 have h1:=ED ih
 have h2:=Pol.qd x
 rw[Fj];omega
theorem KJ (l:List Pol) (i:Nat):0≤cO dX (l.take i)∧cO dX (l.take i)≤cO dX l:=by
 have h1:=ED (l:=l.take i) fun x _=>Af x
 have h2:=ED (l:=l.drop i) fun x _=>Af x
 have h3:=EF dX (l.take i) (l.drop i)
 rw[List.take_append_drop] at h3
 omega
theorem IC (p:Pol):Sz.sz p≤67108864→∀ {h:AH} {v:AV} {F:List Nat},aj h v p.l F→aO Tryz.prog sG [.agg (p.cs v)] h (.int .i64 (dX p)):=by
 refine lQ (p:=fun p=>Sz.sz p≤67108864→∀ {h:AH} {v:AV} {F:List Nat},aj h v p.l F→aO Tryz.prog sG [.agg (p.cs v)] h (.int .i64 (dX p))) ?_ p
 intro p ih hs h v F r
 refine reader (adT _) (by simp only[old]) ?_
 unfold Ov
 have hsz:=Pol.qd p
 have hsm:=r.small
 refine vs ?_
 refine aT p.l.length (fun i vs h1=>vs=[.int .i64 (1+cO dX (p.l.take i)),.int .i64 (i:Int)]∧i≤p.l.length∧Ext (h.push ⟨p.cs v,0,0⟩) h1) ⟨rfl,Nat.zero_le _,aA⟩ ?_
 rintro i vs h1 _ ⟨rfl,hi,e1⟩
 simp only[g0,g1]
 refine vs ?_
 refine br (fun hlt=>?_) (fun hge=>?_)
 ·obtain⟨x,hx,-,ht⟩:=aQ (show i < p.l.length by omega)
  have hm:=List.mem_of_getElem? hx
  have h5:=bf hm
  have h6:=Af x
  have h7:=KJ p.l i
  have h8:=ED (l:=p.l) fun x _=>Af x
  refine vs ?_
  refine bX r hx rfl ?_
  intro bb o cs Fi aa q _
  rw[Pol.dB] at q
  obtain⟨w,rfl,q⟩:=q
  have IC:=@ih x hm (by omega)
  (repeat' first|refine vs ?_|((with_reducible refine ay sG ?_);refine aK (IC ah) ?_)|fail)
  exact⟨by omega,by rw[nE _ ht,Int.add_assoc],by omega,aA⟩
 ·(repeat' first|refine vs ?_|fail)
  refine pi ?_
  rw[show i=p.l.length by omega,List.take_length,Fj]
mutual
def jl:Int→Pol→Prop
 |d,.mk k n s t l=>d≤4∧ko (.mk k n s t l)∧Ad (d+1) l
def Ad:Int→List Pol→Prop
 |_,[]=>True
 |d,p::ps=>jl d p∧Ad d ps
end
theorem Tp:∀ {l:List Pol} {d:Int},Ad d l↔∀ x∈l,jl d x
 |[],d=>by simp[Ad]
 |p::ps,d=>by simp only[Ad,List.mem_cons,forall_eq_or_imp,Tp (l:=ps)]
theorem wG {d:Int} {x:Pol}:jl d x↔d≤4∧ko x∧∀ y∈x.l,jl (d+1) y:=by
 cases x with
 |mk k n s t l=>rw[←Tp];simp only[jl,Pol.l]
theorem Js (p:Pol):Cel.ok p→∀ {h:AH} {d:Int} {v:AV} {F:List Nat},0≤d→aj h v p.l F→aO Tryz.prog sW [.agg (p.cs v),.int .i64 d] h (.bool (bp (jl d p))):=by
 refine lQ (p:=fun p=>Cel.ok p→∀ {h:AH} {d:Int} {v:AV} {F:List Nat},0≤d→aj h v p.l F→aO Tryz.prog sW [.agg (p.cs v),.int .i64 d] h (.bool (bp (jl d p)))) ?_ p
 intro p ih ok h d v F hd r
 refine reader (ahd _ _) (by simp only[old]) ?_
 unfold QN
 have hsm:=r.small
 obtain⟨-,-,okl⟩:=FI ok
 (repeat' first|refine vs ?_|(refine br ?_ ?_<;>first|exact bx|intro _)|((with_reducible refine ay Ee ?_);(refine aU (ah4 ok ah) ?_ ?_<;>intro hn))|fail)
 all_goals first
  |(refine pf ?_;rw[wG];rintro⟨a1,a2,a3⟩;first|contradiction|omega)
  |skip
 refine aT p.l.length (fun i vs h1=>vs=[.int .i64 (i:Int)]∧i≤p.l.length∧Ext (h.push ⟨p.cs v,0,0⟩) h1∧bZ p.l (fun _ x=>jl (d+1) x) i) ⟨rfl,Nat.zero_le _,aA,up0⟩ ?_
 rintro i vs h1 _ ⟨rfl,hi,e1,hu⟩
 simp only[g0]
 refine vs ?_
 refine br (fun hlt=>?_) (fun hge=>?_)
 ·obtain⟨x,hx,-,-⟩:=aQ (show i < p.l.length by omega)
  have hm:=List.mem_of_getElem? hx
  refine vs ?_
  refine bX r hx rfl ?_
  intro bb o cs Fi aa q _
  rw[Pol.dB] at q
  obtain⟨w,rfl,q⟩:=q
  have Js:=@ih x hm (okl x hm)
  (repeat' first|refine vs ?_|((with_reducible refine ay sW ?_);(refine aU (Js aL ah) ?_ ?_<;>intro hd2))|fail)
  ·exact⟨by omega,rfl,by omega,aA,upS hu hx hd2⟩
  ·refine pf ?_
   rw[wG]
   rintro⟨a1,a2,a3⟩
   exact hd2 (a3 x hm)
 ·(repeat' first|refine vs ?_|fail)
  rw[show i=p.l.length by omega] at hu
  refine pt ?_
  rw[wG]
  exact⟨by omega,hn,fZ hu⟩
noncomputable def parts (d:Int) (p:Pol):Int:=if bp (jl d p∧dX p≤12)=true then dX p else 13
theorem UQ {d:Int} {p:Pol} (h1:jl d p) (h2:dX p≤12):parts d p=dX p:=by unfold parts;rw[if_pos (lu ⟨h1,h2⟩)]
theorem KQ {d:Int} {p:Pol} (h: ¬ (jl d p∧dX p≤12)):parts d p=13:=by unfold parts;rw[kI h,if_neg (by decide)]
theorem UR (d:Int) (p:Pol):(parts d p=dX p∧jl d p∧dX p≤12)∨(parts d p=13∧¬ (jl d p∧dX p≤12)):=by
 by_cases h:jl d p∧dX p≤12
 ·exact .inl ⟨UQ h.1 h.2,h⟩
 ·exact .inr ⟨KQ h,h⟩
theorem IJ (p:Pol):Cel.ok p→∀ {h:AH} {d:Int} {v:AV} {F:List Nat},0≤d→aj h v p.l F→aO Tryz.prog sK [.agg (p.cs v),.int .i64 d] h (.int .i64 (parts d p)):=by
 refine lQ (p:=fun p=>Cel.ok p→∀ {h:AH} {d:Int} {v:AV} {F:List Nat},0≤d→aj h v p.l F→aO Tryz.prog sK [.agg (p.cs v),.int .i64 d] h (.int .i64 (parts d p))) ?_ p
 intro p ih ok h d v F hd r
 refine reader (aei _ _) (by simp only[old]) ?_
 unfold OP
 have hsm:=r.small
 obtain⟨-,-,okl⟩:=FI ok
 (repeat' first|refine vs ?_|(refine br ?_ ?_<;>first|exact bx|intro _)|((with_reducible refine ay BX ?_);(refine aU (abA ok ah) ?_ ?_<;>intro hn))|fail)
 all_goals first
  |(refine pi (KQ ?_).symm;rw[wG];rintro⟨⟨a1,a2,a3⟩,a4⟩;first|contradiction|omega)
  |skip
 refine aT p.l.length (fun i vs h1=>vs=[.int .i64 (1+cO dX (p.l.take i)),.int .i64 (i:Int)]∧i≤p.l.length∧Ext (h.push ⟨p.cs v,0,0⟩) h1∧bZ p.l (fun _ x=>jl (d+1) x) i∧1+cO dX (p.l.take i)≤12) ⟨rfl,Nat.zero_le _,aA,up0,by simp[cO]⟩ ?_
 rintro i vs h1 _ ⟨rfl,hi,e1,hu,hc⟩
 simp only[g0,g1]
 refine br (fun hlt=>?_) (fun hge=>?_)
 ·obtain⟨x,hx,-,ht⟩:=aQ (show i < p.l.length by omega)
  have hm:=List.mem_of_getElem? hx
  have h6:=Af x
  have h7:=KJ p.l i
  have h8:=KJ p.l (i+1)
  rw[nE _ ht] at h8
  have h9:=Fj p
  have h10:=UR (d+1) x
  refine vs ?_
  refine bX r hx rfl ?_
  intro bb o cs Fi aa q _
  rw[Pol.dB] at q
  obtain⟨w,rfl,q⟩:=q
  have IJ:=@ih x hm (okl x hm)
  (repeat' first|refine vs ?_|(refine br ?_ ?_<;>first|exact bx|intro _)|((with_reducible refine ay sK ?_);refine aK (IJ aL ah) ?_)|fail)
  ·refine pi (KQ ?_).symm
   rw[wG]
   rintro⟨⟨a1,a2,a3⟩,a4⟩
   have:=a3 x hm
   rcases h10 with⟨b1,b2,b3⟩|⟨b1,b2⟩
   ·omega
   ·exact b2 ⟨this,by omega⟩
  ·rcases h10 with⟨b1,b2,b3⟩|⟨b1,b2⟩
   ·exact⟨by omega,by rw[nE _ ht,Int.add_assoc,b1],by omega,aA,upS hu hx b2,by rw[nE _ ht];omega⟩
   ·exfalso;omega
 ·(repeat' first|refine vs ?_|fail)
  have e:i=p.l.length:=by omega
  rw[e,List.take_length] at hc
  rw[e] at hu
  have h9:=Fj p
  rw[e,List.take_length,←h9]
  refine pi (UQ ?_ (by omega)).symm
  rw[wG]
  exact⟨by omega,hn,fZ hu⟩
def Lp (p:Pol):Prop:=jl 1 p∧dX p≤12
theorem aia {h:AH} {p:Pol} {v:AV} {F:List Nat} (ok:Cel.ok p) (r:aj h v p.l F):aO Tryz.prog Ej [.agg (p.cs v)] h (.bool (bp (Lp p))):=by
 refine reader (ait _) (by simp only[old]) ?_
 unfold Sc
 have h10:=UR 1 p
 (repeat' first|refine vs ?_|(refine br ?_ ?_<;>first|exact bx|intro _)|((with_reducible refine ay sK ?_);refine aK (IJ p ok aL ah) ?_)|fail)
 ·rcases h10 with⟨b1,b2,b3⟩|⟨b1,b2⟩
  ·exact pt ⟨b2,b3⟩
  ·exfalso;omega
 ·rcases h10 with⟨b1,b2,b3⟩|⟨b1,b2⟩
  ·exfalso;omega
  ·exact pf b2
theorem ah6 {h:AH} {p:Pol} {v:AV} {F:List Nat} (ok:Cel.ok p) (hs:Sz.sz p≤67108864) (r:aj h v p.l F):aO Tryz.prog Eh [.agg (p.cs v)] h (.bool (bp (Lp p))):=by
 refine reader (ail _) (by simp only[old]) ?_
 unfold R4
 (repeat' first|refine vs ?_|(refine br ?_ ?_<;>first|exact bx|intro _)|((with_reducible refine ay sG ?_);refine aK (IC p hs ah) ?_)|((with_reducible refine ay sW ?_);(refine aU (Js p ok aL ah) ?_ ?_<;>intro hn))|fail)
 all_goals first
  |exact pt ⟨by assumption,by assumption⟩
  |exact pf fun k=>by obtain⟨a1,a2⟩:=k;contradiction
def Ae (c:gD):Prop:=(1≤c.cB∧c.cB≤3)∧(1≤c.wait∧c.wait≤50)∧(1≤c.budget∧c.budget≤190)∧(1≤c.cache∧c.cache≤6)∧(1≤c.queue∧c.queue≤4)∧(0≤c.rate∧c.rate≤99)∧(0≤c.aV∧c.aV≤999)∧Lp c.rule
theorem ag1 {h:AH} {c:gD} {v:AV} {F:List Nat} (ok:Cel.ok c.rule) (r:aj h v c.rule.l F):aO Tryz.prog Eb [.agg (c.cs v)] h (.bool (bp (Ae c))):=by
 refine reader (ahY _) (by simp only[old]) ?_
 unfold RG
 (repeat' first|refine vs ?_|((with_reducible refine ay bA ?_);(refine cZ gF ?_ ?_<;>intro hb<;>first|replace hb:=dD hb|replace hb:=dH hb))|((with_reducible refine ay Ej ?_);(refine aU (aia (p:=c.rule) ok ah) ?_ ?_<;>intro hn))|fail)
 all_goals first
  |exact pt ⟨by omega,by omega,by omega,by omega,by omega,by omega,by omega,by assumption⟩
  |exact pf fun k=>by obtain⟨a1,a2,a3,a4,a5,a6,a7,a8⟩:=k;contradiction
theorem agG {h:AH} {c:gD} {v:AV} {F:List Nat} (ok:Cel.ok c.rule) (hs:Sz.sz c≤67108864) (r:aj h v c.rule.l F):aO Tryz.prog DY [.agg (c.cs v)] h (.bool (bp (Ae c))):=by
 refine reader (ahr _) (by simp only[old]) ?_
 unfold Q6
 (repeat' first|refine vs ?_|((with_reducible refine ay bI ?_);(refine cZ iw ?_ ?_<;>intro hb<;>first|replace hb:=dD hb|replace hb:=dH hb))|((with_reducible refine ay Eh ?_);(refine aU (ah6 (p:=c.rule) ok hs ah) ?_ ?_<;>intro hn))|fail)
 all_goals first
  |exact pt ⟨by omega,by omega,by omega,by omega,by omega,by omega,by omega,by assumption⟩
  |exact pf fun k=>by obtain⟨a1,a2,a3,a4,a5,a6,a7,a8⟩:=k;contradiction
end Go.Proofs.YtekfdoknfcedpaaGreat
