import Derived.Test.YtkdjapahgmflbaaGreatDKW1
set_option linter.unusedSimpArgs false
set_option linter.unusedVariables false
set_option maxHeartbeats 1000000
namespace Go.Proofs.YtkdjapahgmflbaaGreat
open Go Go.Ab
section
def Ph (x0:AV):Prog:=.op (.box x0) fun a=>Lg 1 a fun b=>Bn .eql b (.int .i64 0) fun b=>Gf b true 2 a fun c=>.gop b true (.bin 1 .eql c (.str ⟨#[]⟩)) fun c=>Pk b c (.bool false) fun b=>Gf b true 3 a fun c=>.gop b true (.bin 1 .eql c (.str ⟨#[]⟩)) fun c=>Pk b c (.bool false) fun b=>Lg 0 a fun c=>Bn .eql c (.int .i64 1) fun d=>.scope (.ite d (.leaf 0 [d]) (Bn .eql c (.int .i64 2) fun a=>.scope (.ite a (.leaf 0 [a]) (Bn .eql c (.int .i64 6) fun a=>.leaf 0 [a])) (fun a=>.leaf 0 [g a 0]) fun a b=>aB a 1 (.leaf 1 b) .bad)) (fun d=>.ite (g d 0) (Gf b true 4 a fun a=>.gop b true (.len 0 a) fun a=>.gop b true (.bin 0 .eql a (.int .i64 0)) fun a=>Pk b a (.bool false) fun a=>.fin [.val a]) (Bn .eql c (.int .i64 3) fun d=>.ite d (Lg 1 a fun b=>Cl bq [b,.int .i64 0,.int .i64 2147483647] fun b=>Gf b true 2 a fun c=>.gop b true (.bin 1 .eql c (.str ⟨#[]⟩)) fun c=>Pk b c (.bool false) fun b=>Gf b true 3 a fun c=>.gop b true (.bin 1 .eql c (.str ⟨#[]⟩)) fun c=>Pk b c (.bool false) fun b=>Gf b true 4 a fun a=>.gop b true (.len 0 a) fun a=>.gop b true (.bin 0 .eql a (.int .i64 0)) fun a=>Pk b a (.bool false) fun a=>.fin [.val a]) (Bn .eql c (.int .i64 4) fun d=>.ite d (Lg 1 a fun b=>Bn .eql b (.int .i64 0) fun b=>Gf b true 2 a fun c=>.gop b true (.call sP [c]) fun c=>Pk b c (.bool false) fun b=>Gf b true 3 a fun c=>.gop b true (.call xA [c]) fun c=>Pk b c (.bool false) fun b=>Gf b true 4 a fun a=>.gop b true (.len 0 a) fun a=>.gop b true (.bin 0 .eql a (.int .i64 0)) fun a=>Pk b a (.bool false) fun a=>.fin [.val a]) (Bn .eql c (.int .i64 5) fun d=>.ite d (Lg 1 a fun b=>Cl bq [b,.int .i64 0,.int .i64 2147483647] fun b=>Gf b true 2 a fun c=>.gop b true (.call sP [c]) fun c=>Pk b c (.bool false) fun b=>Gf b true 3 a fun c=>.gop b true (.bin 1 .eql c (.str ⟨#[]⟩)) fun c=>Pk b c (.bool false) fun b=>Gf b true 4 a fun a=>.gop b true (.len 0 a) fun a=>.gop b true (.bin 0 .eql a (.int .i64 0)) fun a=>Pk b a (.bool false) fun a=>.fin [.val a]) (Bn .eql c (.int .i64 7) fun d=>.scope (.ite d (.leaf 0 [d]) (Bn .eql c (.int .i64 8) fun a=>.leaf 0 [a])) (fun d=>.ite (g d 0) (Gf b true 4 a fun a=>.gop b true (.len 0 a) fun a=>.gop b true (.call bq [a,.int .i64 1,.int .i64 4]) fun a=>Pk b a (.bool false) fun a=>.fin [.val a]) (Bn .eql c (.int .i64 9) fun c=>.ite c (Gf b true 4 a fun a=>.gop b true (.len 0 a) fun a=>.gop b true (.bin 0 .eql a (.int .i64 1)) fun a=>Pk b a (.bool false) fun a=>.fin [.val a]) (.fin [.val (.bool false)]))) fun a b=>aB a 1 (.leaf 1 b) .bad))))) fun a b=>aB a 1 (.leaf 1 b) .bad
theorem ab1 (x0:AV):CC Tryz.prog Dt [x0] (Ph x0):=cc Tryz.func404 [1,3,18,19,93] (fun _=>[])
def Uj (x0:AV):Prog:=.op (.box x0) fun a=>Lg 0 a fun b=>Bn .eql b (.int .i64 1) fun c=>.scope (.ite c (.leaf 0 [c]) (Bn .eql b (.int .i64 2) fun a=>.scope (.ite a (.leaf 0 [a]) (Bn .eql b (.int .i64 6) fun a=>.leaf 0 [a])) (fun a=>.leaf 0 [g a 0]) fun a b=>aB a 1 (.leaf 1 b) .bad)) (fun c=>.ite (g c 0) (Lg 1 a fun b=>Bn .eql b (.int .i64 0) fun b=>Gf b true 2 a fun c=>.gop b true (.bin 1 .eql c (.str ⟨#[]⟩)) fun c=>Pk b c (.bool false) fun b=>Gf b true 3 a fun c=>.gop b true (.bin 1 .eql c (.str ⟨#[]⟩)) fun c=>Pk b c (.bool false) fun b=>Gf b true 4 a fun a=>.gop b true (.len 0 a) fun a=>.gop b true (.bin 0 .eql a (.int .i64 0)) fun a=>Pk b a (.bool false) fun a=>.fin [.val a]) (Bn .eql b (.int .i64 3) fun c=>.ite c (Lg 1 a fun b=>Cl bQ [b,.int .i64 0,.int .i64 2147483647] fun b=>Gf b true 2 a fun c=>.gop b true (.bin 1 .eql c (.str ⟨#[]⟩)) fun c=>Pk b c (.bool false) fun b=>Gf b true 3 a fun c=>.gop b true (.bin 1 .eql c (.str ⟨#[]⟩)) fun c=>Pk b c (.bool false) fun b=>Gf b true 4 a fun a=>.gop b true (.len 0 a) fun a=>.gop b true (.bin 0 .eql a (.int .i64 0)) fun a=>Pk b a (.bool false) fun a=>.fin [.val a]) (Bn .eql b (.int .i64 4) fun c=>.ite c (Lg 1 a fun b=>Bn .eql b (.int .i64 0) fun b=>Gf b true 2 a fun c=>.gop b true (.call vv [c]) fun c=>Pk b c (.bool false) fun b=>Gf b true 3 a fun c=>.gop b true (.call xu [c]) fun c=>Pk b c (.bool false) fun b=>Gf b true 4 a fun a=>.gop b true (.len 0 a) fun a=>.gop b true (.bin 0 .eql a (.int .i64 0)) fun a=>Pk b a (.bool false) fun a=>.fin [.val a]) (Bn .eql b (.int .i64 5) fun c=>.ite c (Lg 1 a fun b=>Cl bQ [b,.int .i64 0,.int .i64 2147483647] fun b=>Gf b true 2 a fun c=>.gop b true (.call vv [c]) fun c=>Pk b c (.bool false) fun b=>Gf b true 3 a fun c=>.gop b true (.bin 1 .eql c (.str ⟨#[]⟩)) fun c=>Pk b c (.bool false) fun b=>Gf b true 4 a fun a=>.gop b true (.len 0 a) fun a=>.gop b true (.bin 0 .eql a (.int .i64 0)) fun a=>Pk b a (.bool false) fun a=>.fin [.val a]) (Bn .eql b (.int .i64 7) fun c=>.scope (.ite c (.leaf 0 [c]) (Bn .eql b (.int .i64 8) fun a=>.leaf 0 [a])) (fun b=>.ite (g b 0) (Lg 1 a fun b=>Bn .eql b (.int .i64 0) fun b=>Gf b true 2 a fun c=>.gop b true (.bin 1 .eql c (.str ⟨#[]⟩)) fun c=>Pk b c (.bool false) fun b=>Gf b true 3 a fun c=>.gop b true (.bin 1 .eql c (.str ⟨#[]⟩)) fun c=>Pk b c (.bool false) fun b=>Gf b true 4 a fun a=>.gop b true (.len 0 a) fun a=>.gop b true (.call bQ [a,.int .i64 1,.int .i64 4]) fun a=>Pk b a (.bool false) fun a=>.fin [.val a]) (Lg 0 a fun b=>Bn .eql b (.int .i64 9) fun b=>Gf b true 1 a fun c=>.gop b true (.bin 0 .eql c (.int .i64 0)) fun c=>Pk b c (.bool false) fun b=>Gf b true 2 a fun c=>.gop b true (.bin 1 .eql c (.str ⟨#[]⟩)) fun c=>Pk b c (.bool false) fun b=>Gf b true 3 a fun c=>.gop b true (.bin 1 .eql c (.str ⟨#[]⟩)) fun c=>Pk b c (.bool false) fun b=>Gf b true 4 a fun a=>.gop b true (.len 0 a) fun a=>.gop b true (.bin 0 .eql a (.int .i64 1)) fun a=>Pk b a (.bool false) fun a=>.fin [.val a])) fun a b=>aB a 1 (.leaf 1 b) .bad))))) fun a b=>aB a 1 (.leaf 1 b) .bad
theorem aij (x0:AV):CC Tryz.prog FD [x0] (Uj x0):=cc Tryz.func396 [1,4,5,91] (fun _=>[])
def Qo (x0 x1:AV):Prog:=.op (.box x0) fun a=>Bn .gtr x1 (.int .i64 4) fun b=>.gop b false (.ldn 5 a) fun c=>.gop b false (.call Dt [c]) fun c=>.gop b false (.una .not c) fun c=>Pk b (.bool true) c fun b=>.ite b (.fin [.val (.int .i64 13)]) (Lg 4 a fun a=>Ln 0 a fun b=>.loop [.int .i64 1,.int .i64 0] (fun c=>Bn .lss (g c 1) b fun b=>.ite b (Ix 5 a (g c 1) fun a=>Ld 5 a fun a=>.op (.alloc l8) fun b=>.op (.st 5 b a) fun _=>Ld 5 b fun a=>Bn .add x1 (.int .i64 1) fun b=>Cl uQ [a,b] fun a=>Bn .add (g c 0) a fun a=>Bn .geq a (.int .i64 13) fun b=>.ite b (.fin [.val (.int .i64 13)]) (Bn .add (g c 1) (.int .i64 1) fun b=>.leaf 0 [a,b])) (.leaf 2 [g c 0,g c 1])) fun a b=>aB a 1 (.leaf 1 b) (aB a 2 (.fin [.val (g b 0)]) .bad))
theorem adz (x0 x1:AV):CC Tryz.prog uQ [x0,x1] (Qo x0 x1):=cc Tryz.func366 [1,5,16,17,18] (fun _=>[])
def SC (x0 x1:AV):Prog:=.op (.box x0) fun a=>Bn .gtr x1 (.int .i64 4) fun b=>.gop b false (.ldn 5 a) fun c=>.gop b false (.call FD [c]) fun c=>.gop b false (.una .not c) fun c=>Pk b (.bool true) c fun b=>.ite b (.fin [.val (.bool false)]) (.loop [.int .i64 0] (fun b=>Lg 4 a fun c=>Ln 0 c fun c=>Bn .lss (g b 0) c fun c=>.ite c (Lg 4 a fun a=>Ix 5 a (g b 0) fun a=>Ld 5 a fun a=>Bn .add x1 (.int .i64 1) fun c=>Cl uZ [a,c] fun a=>.op (.una .not a) fun a=>.ite a (.fin [.val (.bool false)]) (Bn .add (g b 0) (.int .i64 1) fun a=>.leaf 0 [a])) (.leaf 2 [g b 0])) fun a b=>aB a 1 (.leaf 1 b) (aB a 2 (.fin [.val (.bool true)]) .bad))
theorem ag0 (x0 x1:AV):CC Tryz.prog uZ [x0,x1] (SC x0 x1):=cc Tryz.func344 [1,2,5] (fun _=>[])
def P8 (x0:AV):Prog:=.op (.box x0) fun a=>.loop [.int .i64 1,.int .i64 0] (fun b=>Lg 4 a fun c=>Ln 0 c fun c=>Bn .lss (g b 1) c fun c=>.ite c (Lg 4 a fun a=>Ix 5 a (g b 1) fun a=>Ld 5 a fun a=>Cl uM [a] fun a=>Bn .add (g b 0) a fun a=>Bn .add (g b 1) (.int .i64 1) fun b=>.leaf 0 [a,b]) (.leaf 2 [g b 0,g b 1])) fun a b=>aB a 1 (.leaf 1 b) (aB a 2 (.fin [.val (g b 0)]) .bad)
theorem ac9 (x0:AV):CC Tryz.prog uM [x0] (P8 x0):=cc Tryz.func343 [1,3,4] (fun _=>[])
def Un (x0:AV):Prog:=.op (.box x0) fun a=>Ld 5 a fun b=>Cl uM [b] fun b=>Bn .leq b (.int .i64 12) fun b=>.gop b true (.ldn 5 a) fun a=>.gop b true (.call uZ [a,.int .i64 1]) fun a=>Pk b a (.bool false) fun a=>.fin [.val a]
theorem aip (x0:AV):CC Tryz.prog FH [x0] (Un x0):=cc Tryz.func262
def Uz (x0:AV):Prog:=.op (.box x0) fun a=>Ld 5 a fun a=>Cl uQ [a,.int .i64 1] fun a=>Bn .leq a (.int .i64 12) fun a=>.fin [.val a]
theorem aiA (x0:AV):CC Tryz.prog FJ [x0] (Uz x0):=cc Tryz.func303
def TU (x0:AV):Prog:=.op (.box x0) fun a=>Lg 0 a fun b=>Cl bq [b,.int .i64 1,.int .i64 3] fun b=>Gf b true 1 a fun c=>.gop b true (.call bq [c,.int .i64 1,.int .i64 50]) fun c=>Pk b c (.bool false) fun b=>Gf b true 2 a fun c=>.gop b true (.call bq [c,.int .i64 1,.int .i64 190]) fun c=>Pk b c (.bool false) fun b=>Gf b true 3 a fun c=>.gop b true (.call bq [c,.int .i64 1,.int .i64 6]) fun c=>Pk b c (.bool false) fun b=>Gf b true 4 a fun c=>.gop b true (.call bq [c,.int .i64 1,.int .i64 4]) fun c=>Pk b c (.bool false) fun b=>Gf b true 5 a fun c=>.gop b true (.call bq [c,.int .i64 0,.int .i64 99]) fun c=>Pk b c (.bool false) fun b=>Gf b true 6 a fun c=>.gop b true (.call bq [c,.int .i64 0,.int .i64 999]) fun c=>Pk b c (.bool false) fun b=>.gop b true (.fad 7 a) fun a=>.gop b true (.ldn 5 a) fun a=>.gop b true (.call FJ [a]) fun a=>Pk b a (.bool false) fun a=>.fin [.val a]
theorem ahS (x0:AV):CC Tryz.prog Fz [x0] (TU x0):=cc Tryz.func210
def Ta (x0:AV):Prog:=.op (.box x0) fun a=>Lg 0 a fun b=>Cl bQ [b,.int .i64 1,.int .i64 3] fun b=>Gf b true 1 a fun c=>.gop b true (.call bQ [c,.int .i64 1,.int .i64 50]) fun c=>Pk b c (.bool false) fun b=>Gf b true 2 a fun c=>.gop b true (.call bQ [c,.int .i64 1,.int .i64 190]) fun c=>Pk b c (.bool false) fun b=>Gf b true 3 a fun c=>.gop b true (.call bQ [c,.int .i64 1,.int .i64 6]) fun c=>Pk b c (.bool false) fun b=>Gf b true 4 a fun c=>.gop b true (.call bQ [c,.int .i64 1,.int .i64 4]) fun c=>Pk b c (.bool false) fun b=>Gf b true 5 a fun c=>.gop b true (.call bQ [c,.int .i64 0,.int .i64 99]) fun c=>Pk b c (.bool false) fun b=>Gf b true 6 a fun c=>.gop b true (.call bQ [c,.int .i64 0,.int .i64 999]) fun c=>Pk b c (.bool false) fun b=>.gop b true (.fad 7 a) fun a=>.gop b true (.ldn 5 a) fun a=>.gop b true (.call FH [a]) fun a=>Pk b a (.bool false) fun a=>.fin [.val a]
theorem ahh (x0:AV):CC Tryz.prog E9 [x0] (Ta x0):=cc Tryz.func151
end
def mE (p:Pol):Prop:=p.n=0∧p.key=⟨#[]⟩∧p.text=⟨#[]⟩
def lG (p:Pol):Prop:=
 ((p.kind=1∨p.kind=2∨p.kind=6)∧mE p∧(p.l.length:Int)=0)∨
 (p.kind=3∧(0≤p.n∧p.n≤2147483647)∧p.key=⟨#[]⟩∧p.text=⟨#[]⟩∧(p.l.length:Int)=0)∨
 (p.kind=4∧p.n=0∧wo p.key∧GA p.text∧(p.l.length:Int)=0)∨
 (p.kind=5∧(0≤p.n∧p.n≤2147483647)∧wo p.key∧p.text=⟨#[]⟩∧(p.l.length:Int)=0)∨
 ((p.kind=7∨p.kind=8)∧mE p∧1≤(p.l.length:Int)∧(p.l.length:Int)≤4)∨
 (p.kind=9∧mE p∧(p.l.length:Int)=1)
theorem Hu {p:Pol} (ok:Cel.ok p):p.key.size≤maxLen∧p.text.size≤maxLen∧∀ y∈p.l,Cel.ok y:=by
 cases p with
 |mk k n s t l=>exact⟨ok.2.2.1,ok.2.2.2.1,Pol.GI.1 ok.2.2.2.2⟩
theorem abl {h:AH} {p:Pol} {v:AV} {F:List Nat} (ok:Cel.ok p) (r:au h v p.l F):aM Tryz.prog Dt [.agg (p.cs v)] h (.bool (bp (lG p))):=by
 refine reader (ab1 _) (by simp only[old]) ?_
 unfold Ph
 obtain⟨k1,k3,-⟩:=Hu ok
 (repeat' first|refine vs ?_|(refine br ?_ ?_<;>first|exact bx|intro _)|((with_reducible refine aA sP ?_);(refine aS (Sr k1) ?_ ?_<;>intro hn))|((with_reducible refine aA xA ?_);(refine aS (QO k3) ?_ ?_<;>intro hp))|((with_reducible refine aA bq ?_);(refine bU eZ ?_ ?_<;>intro hb<;>first|replace hb:=dx hb|replace hb:=dz hb))|refine gS ?_|fail)
 all_goals first
  |(refine pt ?_;unfold lG mE;simp_all;done)
  |(refine pf ?_;unfold lG mE;simp_all;done)
  |(refine pf ?_;unfold lG mE;simp_all;omega)
  |(refine pt ?_;unfold lG mE;simp_all;omega)
  |(refine pf ?_;unfold lG mE;simp_all;intros;omega)
theorem ahY {h:AH} {p:Pol} {v:AV} {F:List Nat} (ok:Cel.ok p) (r:au h v p.l F):aM Tryz.prog FD [.agg (p.cs v)] h (.bool (bp (lG p))):=by
 refine reader (aij _) (by simp only[old]) ?_
 unfold Uj
 obtain⟨k1,k3,-⟩:=Hu ok
 (repeat' first|refine vs ?_|(refine br ?_ ?_<;>first|exact bx|intro _)|((with_reducible refine aA vv ?_);(refine aS (Sk k1) ?_ ?_<;>intro hn))|((with_reducible refine aA xu ?_);(refine aS (QI k3) ?_ ?_<;>intro hp))|((with_reducible refine aA bQ ?_);(refine bU jr ?_ ?_<;>intro hb<;>first|replace hb:=dx hb|replace hb:=dz hb))|refine gS ?_|fail)
 all_goals first
  |(refine pt ?_;unfold lG mE;simp_all;done)
  |(refine pf ?_;unfold lG mE;simp_all;done)
  |(refine pf ?_;unfold lG mE;simp_all;omega)
  |(refine pt ?_;unfold lG mE;simp_all;omega)
  |(refine pf ?_;unfold lG mE;simp_all;intros;omega)
mutual
def fB:Pol→Int
 | .mk _ _ _ _ l=>1+Cm l
def Cm:List Pol→Int
 |[]=>0
 |p::ps=>fB p+Cm ps
end
theorem WX:∀ l:List Pol,Cm l=dB fB l
 |[]=>by simp[Cm,dB]
 |p::ps=>by simp only[Cm,dB,WX ps]
theorem GU (x:Pol):fB x=1+dB fB x.l:=by
 cases x with
 |mk k n s t l=>rw[←WX];simp only[fB,Pol.l]
theorem Gg {l:List Pol} (hb:∀ x∈l,1≤fB x∧fB x≤1+(Sz.sz x:Nat)):0≤dB fB l∧dB fB l≤l.length+(szs l:Nat):=by
 induction l with
 |nil=>simp[dB,szs]
 |cons x l ih=>
  have h1:=hb x (by simp);have h2:=ih fun y hy=>hb y (by simp[hy])
  simp only[dB,szs,List.length_cons];omega
theorem BU (x:Pol):1≤fB x∧fB x≤1+(Sz.sz x:Nat):=by
 refine lF (p:=fun x=>1≤fB x∧fB x≤1+(Sz.sz x:Nat)) ?_ x
 intro x ih
 have h1:=Gg ih
 have h2:=Pol.tZ x
 rw[GU];omega
theorem Mc (l:List Pol) (i:Nat):0≤dB fB (l.take i)∧dB fB (l.take i)≤dB fB l:=by
 have h1:=Gg (l:=l.take i) fun x _=>BU x
 have h2:=Gg (l:=l.drop i) fun x _=>BU x
 have h3:=Gh fB (l.take i) (l.drop i)
 rw[List.take_append_drop] at h3
 omega
theorem JB (p:Pol):Sz.sz p≤67108864→∀ {h:AH} {v:AV} {F:List Nat},au h v p.l F→aM Tryz.prog uM [.agg (p.cs v)] h (.int .i64 (fB p)):=by
 refine lF (p:=fun p=>Sz.sz p≤67108864→∀ {h:AH} {v:AV} {F:List Nat},au h v p.l F→aM Tryz.prog uM [.agg (p.cs v)] h (.int .i64 (fB p))) ?_ p
 intro p ih hs h v F r
 refine reader (ac9 _) (by simp only[old]) ?_
 unfold P8
 have hsz:=Pol.tZ p
 have hsm:=r.small
 refine vs ?_
 refine aT p.l.length (fun i vs h1=>vs=[.int .i64 (1+dB fB (p.l.take i)),.int .i64 (i:Int)]∧i≤p.l.length∧Ext (h.push ⟨p.cs v,0,0⟩) h1) ⟨rfl,Nat.zero_le _,aD⟩ ?_
 rintro i vs h1 _ ⟨rfl,hi,e1⟩
 simp only[g0,g1]
 refine vs ?_
 refine br (fun hlt=>?_) (fun hge=>?_)
 ·obtain⟨x,hx,-,ht⟩:=aP (show i < p.l.length by omega)
  have hm:=List.mem_of_getElem? hx
  have h5:=bC hm
  have h6:=BU x
  have h7:=Mc p.l i
  have h8:=Gg (l:=p.l) fun x _=>BU x
  refine vs ?_
  refine bV r hx rfl ?_
  intro bb o cs Fi aa q _
  rw[Pol.dw] at q
  obtain⟨w,rfl,q⟩:=q
  have JB:=@ih x hm (by omega)
  (repeat' first|refine vs ?_|((with_reducible refine aA uM ?_);refine aJ (JB ah) ?_)|fail)
  exact⟨by omega,by rw[oP _ ht,Int.add_assoc],by omega,aD⟩
 ·(repeat' first|refine vs ?_|fail)
  refine pi ?_
  rw[show i=p.l.length by omega,List.take_length,GU]
mutual
def kg:Int→Pol→Prop
 |d,.mk k n s t l=>d≤4∧lG (.mk k n s t l)∧BR (d+1) l
def BR:Int→List Pol→Prop
 |_,[]=>True
 |d,p::ps=>kg d p∧BR d ps
end
theorem Vy:∀ {l:List Pol} {d:Int},BR d l↔∀ x∈l,kg d x
 |[],d=>by simp[BR]
 |p::ps,d=>by simp only[BR,List.mem_cons,forall_eq_or_imp,Vy (l:=ps)]
theorem yc {d:Int} {x:Pol}:kg d x↔d≤4∧lG x∧∀ y∈x.l,kg (d+1) y:=by
 cases x with
 |mk k n s t l=>rw[←Vy];simp only[kg,Pol.l]
theorem Kw (p:Pol):Cel.ok p→∀ {h:AH} {d:Int} {v:AV} {F:List Nat},0≤d→au h v p.l F→aM Tryz.prog uZ [.agg (p.cs v),.int .i64 d] h (.bool (bp (kg d p))):=by
 refine lF (p:=fun p=>Cel.ok p→∀ {h:AH} {d:Int} {v:AV} {F:List Nat},0≤d→au h v p.l F→aM Tryz.prog uZ [.agg (p.cs v),.int .i64 d] h (.bool (bp (kg d p)))) ?_ p
 intro p ih ok h d v F hd r
 refine reader (ag0 _ _) (by simp only[old]) ?_
 unfold SC
 have hsm:=r.small
 obtain⟨-,-,okl⟩:=Hu ok
 (repeat' first|refine vs ?_|(refine br ?_ ?_<;>first|exact bx|intro _)|((with_reducible refine aA FD ?_);(refine aS (ahY ok ah) ?_ ?_<;>intro hn))|fail)
 all_goals first
  |(refine pf ?_;rw[yc];rintro⟨a1,a2,a3⟩;first|contradiction|omega)
  |skip
 refine aT p.l.length (fun i vs h1=>vs=[.int .i64 (i:Int)]∧i≤p.l.length∧Ext (h.push ⟨p.cs v,0,0⟩) h1∧cu p.l (fun _ x=>kg (d+1) x) i) ⟨rfl,Nat.zero_le _,aD,up0⟩ ?_
 rintro i vs h1 _ ⟨rfl,hi,e1,hu⟩
 simp only[g0]
 refine vs ?_
 refine br (fun hlt=>?_) (fun hge=>?_)
 ·obtain⟨x,hx,-,-⟩:=aP (show i < p.l.length by omega)
  have hm:=List.mem_of_getElem? hx
  refine vs ?_
  refine bV r hx rfl ?_
  intro bb o cs Fi aa q _
  rw[Pol.dw] at q
  obtain⟨w,rfl,q⟩:=q
  have Kw:=@ih x hm (okl x hm)
  (repeat' first|refine vs ?_|((with_reducible refine aA uZ ?_);(refine aS (Kw aO ah) ?_ ?_<;>intro hd2))|fail)
  ·exact⟨by omega,rfl,by omega,aD,upS hu hx hd2⟩
  ·refine pf ?_
   rw[yc]
   rintro⟨a1,a2,a3⟩
   exact hd2 (a3 x hm)
 ·(repeat' first|refine vs ?_|fail)
  rw[show i=p.l.length by omega] at hu
  refine pt ?_
  rw[yc]
  exact⟨by omega,hn,fV hu⟩
noncomputable def parts (d:Int) (p:Pol):Int:=if bp (kg d p∧fB p≤12)=true then fB p else 13
theorem Xw {d:Int} {p:Pol} (h1:kg d p) (h2:fB p≤12):parts d p=fB p:=by unfold parts;rw[if_pos (fI ⟨h1,h2⟩)]
theorem Ml {d:Int} {p:Pol} (h: ¬ (kg d p∧fB p≤12)):parts d p=13:=by unfold parts;rw[gu h,if_neg (by decide)]
theorem Xx (d:Int) (p:Pol):(parts d p=fB p∧kg d p∧fB p≤12)∨(parts d p=13∧¬ (kg d p∧fB p≤12)):=by
 by_cases h:kg d p∧fB p≤12
 ·exact .inl ⟨Xw h.1 h.2,h⟩
 ·exact .inr ⟨Ml h,h⟩
theorem JG (p:Pol):Cel.ok p→∀ {h:AH} {d:Int} {v:AV} {F:List Nat},0≤d→au h v p.l F→aM Tryz.prog uQ [.agg (p.cs v),.int .i64 d] h (.int .i64 (parts d p)):=by
 refine lF (p:=fun p=>Cel.ok p→∀ {h:AH} {d:Int} {v:AV} {F:List Nat},0≤d→au h v p.l F→aM Tryz.prog uQ [.agg (p.cs v),.int .i64 d] h (.int .i64 (parts d p))) ?_ p
 intro p ih ok h d v F hd r
 refine reader (adz _ _) (by simp only[old]) ?_
 unfold Qo
 have hsm:=r.small
 obtain⟨-,-,okl⟩:=Hu ok
 (repeat' first|refine vs ?_|(refine br ?_ ?_<;>first|exact bx|intro _)|((with_reducible refine aA Dt ?_);(refine aS (abl ok ah) ?_ ?_<;>intro hn))|fail)
 all_goals first
  |(refine pi (Ml ?_).symm;rw[yc];rintro⟨⟨a1,a2,a3⟩,a4⟩;first|contradiction|omega)
  |skip
 refine aT p.l.length (fun i vs h1=>vs=[.int .i64 (1+dB fB (p.l.take i)),.int .i64 (i:Int)]∧i≤p.l.length∧Ext (h.push ⟨p.cs v,0,0⟩) h1∧cu p.l (fun _ x=>kg (d+1) x) i∧1+dB fB (p.l.take i)≤12) ⟨rfl,Nat.zero_le _,aD,up0,by simp[dB]⟩ ?_
 rintro i vs h1 _ ⟨rfl,hi,e1,hu,hc⟩
 simp only[g0,g1]
 refine br (fun hlt=>?_) (fun hge=>?_)
 ·obtain⟨x,hx,-,ht⟩:=aP (show i < p.l.length by omega)
  have hm:=List.mem_of_getElem? hx
  have h6:=BU x
  have h7:=Mc p.l i
  have h8:=Mc p.l (i+1)
  rw[oP _ ht] at h8
  have h9:=GU p
  have h10:=Xx (d+1) x
  refine vs ?_
  refine bV r hx rfl ?_
  intro bb o cs Fi aa q _
  rw[Pol.dw] at q
  obtain⟨w,rfl,q⟩:=q
  have JG:=@ih x hm (okl x hm)
  (repeat' first|refine vs ?_|(refine br ?_ ?_<;>first|exact bx|intro _)|((with_reducible refine aA uQ ?_);refine aJ (JG aO ah) ?_)|fail)
  ·refine pi (Ml ?_).symm
   rw[yc]
   rintro⟨⟨a1,a2,a3⟩,a4⟩
   have:=a3 x hm
   rcases h10 with⟨b1,b2,b3⟩|⟨b1,b2⟩
   ·omega
   ·exact b2 ⟨this,by omega⟩
  ·rcases h10 with⟨b1,b2,b3⟩|⟨b1,b2⟩
   ·exact⟨by omega,by rw[oP _ ht,Int.add_assoc,b1],by omega,aD,upS hu hx b2,by rw[oP _ ht];omega⟩
   ·exfalso;omega
 ·(repeat' first|refine vs ?_|fail)
  have e:i=p.l.length:=by omega
  rw[e,List.take_length] at hc
  rw[e] at hu
  have h9:=GU p
  rw[e,List.take_length,←h9]
  refine pi (Xw ?_ (by omega)).symm
  rw[yc]
  exact⟨by omega,hn,fV hu⟩
def M4 (p:Pol):Prop:=kg 1 p∧fB p≤12
theorem ah8 {h:AH} {p:Pol} {v:AV} {F:List Nat} (ok:Cel.ok p) (r:au h v p.l F):aM Tryz.prog FJ [.agg (p.cs v)] h (.bool (bp (M4 p))):=by
 refine reader (aiA _) (by simp only[old]) ?_
 unfold Uz
 have h10:=Xx 1 p
 (repeat' first|refine vs ?_|(refine br ?_ ?_<;>first|exact bx|intro _)|((with_reducible refine aA uQ ?_);refine aJ (JG p ok aO ah) ?_)|fail)
 ·rcases h10 with⟨b1,b2,b3⟩|⟨b1,b2⟩
  ·exact pt ⟨b2,b3⟩
  ·exfalso;omega
 ·rcases h10 with⟨b1,b2,b3⟩|⟨b1,b2⟩
  ·exfalso;omega
  ·exact pf b2
theorem ah2 {h:AH} {p:Pol} {v:AV} {F:List Nat} (ok:Cel.ok p) (hs:Sz.sz p≤67108864) (r:au h v p.l F):aM Tryz.prog FH [.agg (p.cs v)] h (.bool (bp (M4 p))):=by
 refine reader (aip _) (by simp only[old]) ?_
 unfold Un
 (repeat' first|refine vs ?_|(refine br ?_ ?_<;>first|exact bx|intro _)|((with_reducible refine aA uM ?_);refine aJ (JB p hs ah) ?_)|((with_reducible refine aA uZ ?_);(refine aS (Kw p ok aO ah) ?_ ?_<;>intro hn))|fail)
 all_goals first
  |exact pt ⟨by assumption,by assumption⟩
  |exact pf fun k=>by obtain⟨a1,a2⟩:=k;contradiction
def BS (c:iL):Prop:=(1≤c.eU∧c.eU≤3)∧(1≤c.wait∧c.wait≤50)∧(1≤c.budget∧c.budget≤190)∧(1≤c.cache∧c.cache≤6)∧(1≤c.queue∧c.queue≤4)∧(0≤c.rate∧c.rate≤99)∧(0≤c.bn∧c.bn≤999)∧M4 c.rule
theorem agN {h:AH} {c:iL} {v:AV} {F:List Nat} (ok:Cel.ok c.rule) (r:au h v c.rule.l F):aM Tryz.prog Fz [.agg (c.cs v)] h (.bool (bp (BS c))):=by
 refine reader (ahS _) (by simp only[old]) ?_
 unfold TU
 (repeat' first|refine vs ?_|((with_reducible refine aA bq ?_);(refine bU eZ ?_ ?_<;>intro hb<;>first|replace hb:=dx hb|replace hb:=dz hb))|((with_reducible refine aA FJ ?_);(refine aS (ah8 (p:=c.rule) ok ah) ?_ ?_<;>intro hn))|fail)
 all_goals first
  |exact pt ⟨by omega,by omega,by omega,by omega,by omega,by omega,by omega,by assumption⟩
  |exact pf fun k=>by obtain⟨a1,a2,a3,a4,a5,a6,a7,a8⟩:=k;contradiction
theorem agm {h:AH} {c:iL} {v:AV} {F:List Nat} (ok:Cel.ok c.rule) (hs:Sz.sz c≤67108864) (r:au h v c.rule.l F):aM Tryz.prog E9 [.agg (c.cs v)] h (.bool (bp (BS c))):=by
 refine reader (ahh _) (by simp only[old]) ?_
 unfold Ta
 (repeat' first|refine vs ?_|((with_reducible refine aA bQ ?_);(refine bU jr ?_ ?_<;>intro hb<;>first|replace hb:=dx hb|replace hb:=dz hb))|((with_reducible refine aA FH ?_);(refine aS (ah2 (p:=c.rule) ok hs ah) ?_ ?_<;>intro hn))|fail)
 all_goals first
  |exact pt ⟨by omega,by omega,by omega,by omega,by omega,by omega,by omega,by assumption⟩
  |exact pf fun k=>by obtain⟨a1,a2,a3,a4,a5,a6,a7,a8⟩:=k;contradiction
end Go.Proofs.YtkdjapahgmflbaaGreat
