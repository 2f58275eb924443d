import Derived.Test.YtekfdoknfcedpaaGreatDKW1
set_option linter.unusedSimpArgs false
set_option linter.unusedVariables false
set_option maxHeartbeats 1000000
namespace Go.Proofs.YtekfdoknfcedpaaGreat
open Go Go.Ab
section
def M5 (x0:AV):Prog:=.op (.box x0) fun a=>Lg 1 a fun b=>Bn .eql b (.int .i64 0) fun b=>Gf b true 2 a fun c=>.gop b true (.bin 1 .eql c (.str ⟨#[]⟩)) fun c=>Pk b c (.bool false) fun b=>Gf b true 3 a fun c=>.gop b true (.bin 1 .eql c (.str ⟨#[]⟩)) fun c=>Pk b c (.bool false) fun b=>Lg 0 a fun c=>Bn .eql c (.int .i64 1) fun d=>.scope (.ite d (.leaf 0 [d]) (Bn .eql c (.int .i64 2) fun a=>.scope (.ite a (.leaf 0 [a]) (Bn .eql c (.int .i64 6) fun a=>.leaf 0 [a])) (fun a=>.leaf 0 [g a 0]) fun a b=>aA a 1 (.leaf 1 b) .bad)) (fun d=>.ite (g d 0) (Gf b true 4 a fun a=>.gop b true (.len 0 a) fun a=>.gop b true (.bin 0 .eql a (.int .i64 0)) fun a=>Pk b a (.bool false) fun a=>.fin [.val a]) (Bn .eql c (.int .i64 3) fun d=>.ite d (Lg 1 a fun b=>Cl bK [b,.int .i64 0,.int .i64 2147483647] fun b=>Gf b true 2 a fun c=>.gop b true (.bin 1 .eql c (.str ⟨#[]⟩)) fun c=>Pk b c (.bool false) fun b=>Gf b true 3 a fun c=>.gop b true (.bin 1 .eql c (.str ⟨#[]⟩)) fun c=>Pk b c (.bool false) fun b=>Gf b true 4 a fun a=>.gop b true (.len 0 a) fun a=>.gop b true (.bin 0 .eql a (.int .i64 0)) fun a=>Pk b a (.bool false) fun a=>.fin [.val a]) (Bn .eql c (.int .i64 4) fun d=>.ite d (Lg 1 a fun b=>Bn .eql b (.int .i64 0) fun b=>Gf b true 2 a fun c=>.gop b true (.call oC [c]) fun c=>Pk b c (.bool false) fun b=>Gf b true 3 a fun c=>.gop b true (.call tX [c]) fun c=>Pk b c (.bool false) fun b=>Gf b true 4 a fun a=>.gop b true (.len 0 a) fun a=>.gop b true (.bin 0 .eql a (.int .i64 0)) fun a=>Pk b a (.bool false) fun a=>.fin [.val a]) (Bn .eql c (.int .i64 5) fun d=>.ite d (Lg 1 a fun b=>Cl bK [b,.int .i64 0,.int .i64 2147483647] fun b=>Gf b true 2 a fun c=>.gop b true (.call oC [c]) fun c=>Pk b c (.bool false) fun b=>Gf b true 3 a fun c=>.gop b true (.bin 1 .eql c (.str ⟨#[]⟩)) fun c=>Pk b c (.bool false) fun b=>Gf b true 4 a fun a=>.gop b true (.len 0 a) fun a=>.gop b true (.bin 0 .eql a (.int .i64 0)) fun a=>Pk b a (.bool false) fun a=>.fin [.val a]) (Bn .eql c (.int .i64 7) fun d=>.scope (.ite d (.leaf 0 [d]) (Bn .eql c (.int .i64 8) fun a=>.leaf 0 [a])) (fun d=>.ite (g d 0) (Gf b true 4 a fun a=>.gop b true (.len 0 a) fun a=>.gop b true (.call bK [a,.int .i64 1,.int .i64 4]) fun a=>Pk b a (.bool false) fun a=>.fin [.val a]) (Bn .eql c (.int .i64 9) fun c=>.ite c (Gf b true 4 a fun a=>.gop b true (.len 0 a) fun a=>.gop b true (.bin 0 .eql a (.int .i64 1)) fun a=>Pk b a (.bool false) fun a=>.fin [.val a]) (.fin [.val (.bool false)]))) fun a b=>aA a 1 (.leaf 1 b) .bad))))) fun a b=>aA a 1 (.leaf 1 b) .bad
theorem acJ (x0:AV):CC Tryz.prog Ad [x0] (M5 x0):=cc Tryz.func332 [1,3,18,19,93] (fun _=>[])
def Rp (x0:AV):Prog:=.op (.box x0) fun a=>Lg 0 a fun b=>Bn .eql b (.int .i64 1) fun c=>.scope (.ite c (.leaf 0 [c]) (Bn .eql b (.int .i64 2) fun a=>.scope (.ite a (.leaf 0 [a]) (Bn .eql b (.int .i64 6) fun a=>.leaf 0 [a])) (fun a=>.leaf 0 [g a 0]) fun a b=>aA a 1 (.leaf 1 b) .bad)) (fun c=>.ite (g c 0) (Lg 1 a fun b=>Bn .eql b (.int .i64 0) fun b=>Gf b true 2 a fun c=>.gop b true (.bin 1 .eql c (.str ⟨#[]⟩)) fun c=>Pk b c (.bool false) fun b=>Gf b true 3 a fun c=>.gop b true (.bin 1 .eql c (.str ⟨#[]⟩)) fun c=>Pk b c (.bool false) fun b=>Gf b true 4 a fun a=>.gop b true (.len 0 a) fun a=>.gop b true (.bin 0 .eql a (.int .i64 0)) fun a=>Pk b a (.bool false) fun a=>.fin [.val a]) (Bn .eql b (.int .i64 3) fun c=>.ite c (Lg 1 a fun b=>Cl bP [b,.int .i64 0,.int .i64 2147483647] fun b=>Gf b true 2 a fun c=>.gop b true (.bin 1 .eql c (.str ⟨#[]⟩)) fun c=>Pk b c (.bool false) fun b=>Gf b true 3 a fun c=>.gop b true (.bin 1 .eql c (.str ⟨#[]⟩)) fun c=>Pk b c (.bool false) fun b=>Gf b true 4 a fun a=>.gop b true (.len 0 a) fun a=>.gop b true (.bin 0 .eql a (.int .i64 0)) fun a=>Pk b a (.bool false) fun a=>.fin [.val a]) (Bn .eql b (.int .i64 4) fun c=>.ite c (Lg 1 a fun b=>Bn .eql b (.int .i64 0) fun b=>Gf b true 2 a fun c=>.gop b true (.call qI [c]) fun c=>Pk b c (.bool false) fun b=>Gf b true 3 a fun c=>.gop b true (.call tK [c]) fun c=>Pk b c (.bool false) fun b=>Gf b true 4 a fun a=>.gop b true (.len 0 a) fun a=>.gop b true (.bin 0 .eql a (.int .i64 0)) fun a=>Pk b a (.bool false) fun a=>.fin [.val a]) (Bn .eql b (.int .i64 5) fun c=>.ite c (Lg 1 a fun b=>Cl bP [b,.int .i64 0,.int .i64 2147483647] fun b=>Gf b true 2 a fun c=>.gop b true (.call qI [c]) fun c=>Pk b c (.bool false) fun b=>Gf b true 3 a fun c=>.gop b true (.bin 1 .eql c (.str ⟨#[]⟩)) fun c=>Pk b c (.bool false) fun b=>Gf b true 4 a fun a=>.gop b true (.len 0 a) fun a=>.gop b true (.bin 0 .eql a (.int .i64 0)) fun a=>Pk b a (.bool false) fun a=>.fin [.val a]) (Bn .eql b (.int .i64 7) fun c=>.scope (.ite c (.leaf 0 [c]) (Bn .eql b (.int .i64 8) fun a=>.leaf 0 [a])) (fun b=>.ite (g b 0) (Lg 1 a fun b=>Bn .eql b (.int .i64 0) fun b=>Gf b true 2 a fun c=>.gop b true (.bin 1 .eql c (.str ⟨#[]⟩)) fun c=>Pk b c (.bool false) fun b=>Gf b true 3 a fun c=>.gop b true (.bin 1 .eql c (.str ⟨#[]⟩)) fun c=>Pk b c (.bool false) fun b=>Gf b true 4 a fun a=>.gop b true (.len 0 a) fun a=>.gop b true (.call bP [a,.int .i64 1,.int .i64 4]) fun a=>Pk b a (.bool false) fun a=>.fin [.val a]) (Lg 0 a fun b=>Bn .eql b (.int .i64 9) fun b=>Gf b true 1 a fun c=>.gop b true (.bin 0 .eql c (.int .i64 0)) fun c=>Pk b c (.bool false) fun b=>Gf b true 2 a fun c=>.gop b true (.bin 1 .eql c (.str ⟨#[]⟩)) fun c=>Pk b c (.bool false) fun b=>Gf b true 3 a fun c=>.gop b true (.bin 1 .eql c (.str ⟨#[]⟩)) fun c=>Pk b c (.bool false) fun b=>Gf b true 4 a fun a=>.gop b true (.len 0 a) fun a=>.gop b true (.bin 0 .eql a (.int .i64 1)) fun a=>Pk b a (.bool false) fun a=>.fin [.val a])) fun a b=>aA a 1 (.leaf 1 b) .bad))))) fun a b=>aA a 1 (.leaf 1 b) .bad
theorem aiA (x0:AV):CC Tryz.prog CJ [x0] (Rp x0):=cc Tryz.func309 [1,4,5,91] (fun _=>[])
def NW (x0 x1:AV):Prog:=.op (.box x0) fun a=>Bn .gtr x1 (.int .i64 4) fun b=>.gop b false (.ldn 5 a) fun c=>.gop b false (.call Ad [c]) fun c=>.gop b false (.una .not c) fun c=>Pk b (.bool true) c fun b=>.ite b (.fin [.val (.int .i64 13)]) (Lg 4 a fun a=>Ln 0 a fun b=>.loop [.int .i64 1,.int .i64 0] (fun c=>Bn .lss (g c 1) b fun b=>.ite b (Ix 5 a (g c 1) fun a=>Ld 5 a fun a=>.op (.alloc jL) fun b=>.op (.st 5 b a) fun _=>Ld 5 b fun a=>Bn .add x1 (.int .i64 1) fun b=>Cl qA [a,b] fun a=>Bn .add (g c 0) a fun a=>Bn .geq a (.int .i64 13) fun b=>.ite b (.fin [.val (.int .i64 13)]) (Bn .add (g c 1) (.int .i64 1) fun b=>.leaf 0 [a,b])) (.leaf 2 [g c 0,g c 1])) fun a b=>aA a 1 (.leaf 1 b) (aA a 2 (.fin [.val (g b 0)]) .bad))
theorem ad9 (x0 x1:AV):CC Tryz.prog qA [x0,x1] (NW x0 x1):=cc Tryz.func315 [1,5,16,17,18] (fun _=>[])
def Qm (x0 x1:AV):Prog:=.op (.box x0) fun a=>Bn .gtr x1 (.int .i64 4) fun b=>.gop b false (.ldn 5 a) fun c=>.gop b false (.call CJ [c]) fun c=>.gop b false (.una .not c) fun c=>Pk b (.bool true) c fun b=>.ite b (.fin [.val (.bool false)]) (.loop [.int .i64 0] (fun b=>Lg 4 a fun c=>Ln 0 c fun c=>Bn .lss (g b 0) c fun c=>.ite c (Lg 4 a fun a=>Ix 5 a (g b 0) fun a=>Ld 5 a fun a=>Bn .add x1 (.int .i64 1) fun c=>Cl qG [a,c] fun a=>.op (.una .not a) fun a=>.ite a (.fin [.val (.bool false)]) (Bn .add (g b 0) (.int .i64 1) fun a=>.leaf 0 [a])) (.leaf 2 [g b 0])) fun a b=>aA a 1 (.leaf 1 b) (aA a 2 (.fin [.val (.bool true)]) .bad))
theorem ahq (x0 x1:AV):CC Tryz.prog qG [x0,x1] (Qm x0 x1):=cc Tryz.func250 [1,2,5] (fun _=>[])
def Nz (x0:AV):Prog:=.op (.box x0) fun a=>.loop [.int .i64 1,.int .i64 0] (fun b=>Lg 4 a fun c=>Ln 0 c fun c=>Bn .lss (g b 1) c fun c=>.ite c (Lg 4 a fun a=>Ix 5 a (g b 1) fun a=>Ld 5 a fun a=>Cl qw [a] fun a=>Bn .add (g b 0) a fun a=>Bn .add (g b 1) (.int .i64 1) fun b=>.leaf 0 [a,b]) (.leaf 2 [g b 0,g b 1])) fun a b=>aA a 1 (.leaf 1 b) (aA a 2 (.fin [.val (g b 0)]) .bad)
theorem adJ (x0:AV):CC Tryz.prog qw [x0] (Nz x0):=cc Tryz.func249 [1,3,4] (fun _=>[])
def Rt (x0:AV):Prog:=.op (.box x0) fun a=>Ld 5 a fun b=>Cl qw [b] fun b=>Bn .leq b (.int .i64 12) fun b=>.gop b true (.ldn 5 a) fun a=>.gop b true (.call qG [a,.int .i64 1]) fun a=>Pk b a (.bool false) fun a=>.fin [.val a]
theorem aiE (x0:AV):CC Tryz.prog CO [x0] (Rt x0):=cc Tryz.func173
def RB (x0:AV):Prog:=.op (.box x0) fun a=>Ld 5 a fun a=>Cl qA [a,.int .i64 1] fun a=>Bn .leq a (.int .i64 12) fun a=>.fin [.val a]
theorem aiM (x0:AV):CC Tryz.prog CP [x0] (RB x0):=cc Tryz.func266
def Rh (x0:AV):Prog:=.op (.box x0) fun a=>Lg 0 a fun b=>Cl bK [b,.int .i64 1,.int .i64 3] fun b=>Gf b true 1 a fun c=>.gop b true (.call bK [c,.int .i64 1,.int .i64 50]) fun c=>Pk b c (.bool false) fun b=>Gf b true 2 a fun c=>.gop b true (.call bK [c,.int .i64 1,.int .i64 190]) fun c=>Pk b c (.bool false) fun b=>Gf b true 3 a fun c=>.gop b true (.call bK [c,.int .i64 1,.int .i64 6]) fun c=>Pk b c (.bool false) fun b=>Gf b true 4 a fun c=>.gop b true (.call bK [c,.int .i64 1,.int .i64 4]) fun c=>Pk b c (.bool false) fun b=>Gf b true 5 a fun c=>.gop b true (.call bK [c,.int .i64 0,.int .i64 99]) fun c=>Pk b c (.bool false) fun b=>Gf b true 6 a fun c=>.gop b true (.call bK [c,.int .i64 0,.int .i64 999]) fun c=>Pk b c (.bool false) fun b=>.gop b true (.fad 7 a) fun a=>.gop b true (.ldn 5 a) fun a=>.gop b true (.call CP [a]) fun a=>Pk b a (.bool false) fun a=>.fin [.val a]
theorem aii (x0:AV):CC Tryz.prog CB [x0] (Rh x0):=cc Tryz.func195
def QB (x0:AV):Prog:=.op (.box x0) fun a=>Lg 0 a fun b=>Cl bP [b,.int .i64 1,.int .i64 3] fun b=>Gf b true 1 a fun c=>.gop b true (.call bP [c,.int .i64 1,.int .i64 50]) fun c=>Pk b c (.bool false) fun b=>Gf b true 2 a fun c=>.gop b true (.call bP [c,.int .i64 1,.int .i64 190]) fun c=>Pk b c (.bool false) fun b=>Gf b true 3 a fun c=>.gop b true (.call bP [c,.int .i64 1,.int .i64 6]) fun c=>Pk b c (.bool false) fun b=>Gf b true 4 a fun c=>.gop b true (.call bP [c,.int .i64 1,.int .i64 4]) fun c=>Pk b c (.bool false) fun b=>Gf b true 5 a fun c=>.gop b true (.call bP [c,.int .i64 0,.int .i64 99]) fun c=>Pk b c (.bool false) fun b=>Gf b true 6 a fun c=>.gop b true (.call bP [c,.int .i64 0,.int .i64 999]) fun c=>Pk b c (.bool false) fun b=>.gop b true (.fad 7 a) fun a=>.gop b true (.ldn 5 a) fun a=>.gop b true (.call CO [a]) fun a=>Pk b a (.bool false) fun a=>.fin [.val a]
theorem ahG (x0:AV):CC Tryz.prog Co [x0] (QB x0):=cc Tryz.func97
end
def jT (p:Pol):Prop:=p.n=0∧p.key=⟨#[]⟩∧p.text=⟨#[]⟩
def jk (p:Pol):Prop:=
 ((p.kind=1∨p.kind=2∨p.kind=6)∧jT p∧(p.l.length:Int)=0)∨
 (p.kind=3∧(0≤p.n∧p.n≤2147483647)∧p.key=⟨#[]⟩∧p.text=⟨#[]⟩∧(p.l.length:Int)=0)∨
 (p.kind=4∧p.n=0∧rz p.key∧Ee p.text∧(p.l.length:Int)=0)∨
 (p.kind=5∧(0≤p.n∧p.n≤2147483647)∧rz p.key∧p.text=⟨#[]⟩∧(p.l.length:Int)=0)∨
 ((p.kind=7∨p.kind=8)∧jT p∧1≤(p.l.length:Int)∧(p.l.length:Int)≤4)∨
 (p.kind=9∧jT p∧(p.l.length:Int)=1)
theorem EL {p:Pol} (ok:Cel.ok p):p.key.size≤maxLen∧p.text.size≤maxLen∧∀ y∈p.l,Cel.ok y:=by
 cases p with
 |mk k n s t l=>exact⟨ok.2.2.1,ok.2.2.2.1,Pol.Ef.1 ok.2.2.2.2⟩
theorem abx {h:AH} {p:Pol} {v:AV} {F:List Nat} (ok:Cel.ok p) (r:au h v p.l F):aN Tryz.prog Ad [.agg (p.cs v)] h (.bool (bp (jk p))):=by
 refine reader (acJ _) (by simp only[old]) ?_
 unfold M5
 obtain⟨k1,k3,-⟩:=EL ok
 (repeat' first|refine vs ?_|(refine br ?_ ?_<;>first|exact bx|intro _)|((with_reducible refine aB oC ?_);(refine aX (Qg k1) ?_ ?_<;>intro hn))|((with_reducible refine aB tX ?_);(refine aX (Ox k3) ?_ ?_<;>intro hp))|((with_reducible refine aB bK ?_);(refine cK eY ?_ ?_<;>intro hb<;>first|replace hb:=dx hb|replace hb:=dz hb))|((with_reducible refine aJ ?_);simp only[g0,g1,g2]))
 all_goals first
  |(refine pt ?_;unfold jk jT;simp_all;done)
  |(refine pf ?_;unfold jk jT;simp_all;done)
  |(refine pf ?_;unfold jk jT;simp_all;omega)
  |(refine pt ?_;unfold jk jT;simp_all;omega)
  |(refine pf ?_;unfold jk jT;simp_all;intros;omega)
theorem ain {h:AH} {p:Pol} {v:AV} {F:List Nat} (ok:Cel.ok p) (r:au h v p.l F):aN Tryz.prog CJ [.agg (p.cs v)] h (.bool (bp (jk p))):=by
 refine reader (aiA _) (by simp only[old]) ?_
 unfold Rp
 obtain⟨k1,k3,-⟩:=EL ok
 (repeat' first|refine vs ?_|(refine br ?_ ?_<;>first|exact bx|intro _)|((with_reducible refine aB qI ?_);(refine aX (Qa k1) ?_ ?_<;>intro hn))|((with_reducible refine aB tK ?_);(refine aX (Ol k3) ?_ ?_<;>intro hp))|((with_reducible refine aB bP ?_);(refine cK fV ?_ ?_<;>intro hb<;>first|replace hb:=dx hb|replace hb:=dz hb))|((with_reducible refine aJ ?_);simp only[g0,g1,g2]))
 all_goals first
  |(refine pt ?_;unfold jk jT;simp_all;done)
  |(refine pf ?_;unfold jk jT;simp_all;done)
  |(refine pf ?_;unfold jk jT;simp_all;omega)
  |(refine pt ?_;unfold jk jT;simp_all;omega)
  |(refine pf ?_;unfold jk jT;simp_all;intros;omega)
mutual
def dO:Pol→Int
 | .mk _ _ _ _ l=>1+yO l
def yO:List Pol→Int
 |[]=>0
 |p::ps=>dO p+yO ps
end
theorem TW:∀ l:List Pol,yO l=cB dO l
 |[]=>by simp[yO,cB]
 |p::ps=>by simp only[yO,cB,TW ps]
theorem Ep (x:Pol):dO x=1+cB dO x.l:=by
 cases x with
 |mk k n s t l=>rw[←TW];simp only[dO,Pol.l]
theorem Dz {l:List Pol} (hb:∀ x∈l,1≤dO x∧dO x≤1+(Sz.sz x:Nat)):0≤cB dO l∧cB dO l≤l.length+(szs l:Nat):=by
 induction l with
 |nil=>simp[cB,szs]
 |cons x l ih=>
  have h1:=hb x (by simp);have h2:=ih fun y hy=>hb y (by simp[hy])
  simp only[cB,szs,List.length_cons];omega
theorem yI (x:Pol):1≤dO x∧dO x≤1+(Sz.sz x:Nat):=by
 refine iB (p:=fun x=>1≤dO x∧dO x≤1+(Sz.sz x:Nat)) ?_ x
 intro x ih
 have h1:=Dz ih
 have h2:=Pol.nJ x
 rw[Ep];omega
theorem J5 (l:List Pol) (i:Nat):0≤cB dO (l.take i)∧cB dO (l.take i)≤cB dO l:=by
 have h1:=Dz (l:=l.take i) fun x _=>yI x
 have h2:=Dz (l:=l.drop i) fun x _=>yI x
 have h3:=DC dO (l.take i) (l.drop i)
 rw[List.take_append_drop] at h3
 omega
theorem Il (p:Pol):Sz.sz p≤67108864→∀ {h:AH} {v:AV} {F:List Nat},au h v p.l F→aN Tryz.prog qw [.agg (p.cs v)] h (.int .i64 (dO p)):=by
 refine iB (p:=fun p=>Sz.sz p≤67108864→∀ {h:AH} {v:AV} {F:List Nat},au h v p.l F→aN Tryz.prog qw [.agg (p.cs v)] h (.int .i64 (dO p))) ?_ p
 intro p ih hs h v F r
 refine reader (adJ _) (by simp only[old]) ?_
 unfold Nz
 have hsz:=Pol.nJ p
 have hsm:=r.small
 refine vs ?_
 refine aY p.l.length (fun i vs h1=>vs=[.int .i64 (1+cB dO (p.l.take i)),.int .i64 (i:Int)]∧i≤p.l.length∧Ext (h.push ⟨p.cs v,0,0⟩) h1) ⟨rfl,Nat.zero_le _,aG⟩ ?_
 rintro i vs h1 _ ⟨rfl,hi,e1⟩
 simp only[g0,g1]
 refine vs ?_
 refine br (fun hlt=>?_) (fun hge=>?_)
 ·obtain⟨x,hx,-,ht⟩:=aR (show i < p.l.length by omega)
  have hm:=List.mem_of_getElem? hx
  have h5:=bI hm
  have h6:=yI x
  have h7:=J5 p.l i
  have h8:=Dz (l:=p.l) fun x _=>yI x
  refine vs ?_
  refine bS r hx rfl ?_
  intro bb o cs Fi aa q _
  rw[Pol.bX] at q
  obtain⟨w,rfl,q⟩:=q
  have Il:=@ih x hm (by omega)
  (repeat' first|refine vs ?_|((with_reducible refine aB qw ?_);refine aQ (Il ah) ?_)|fail)
  exact⟨by omega,by rw[lS _ ht,Int.add_assoc],by omega,aG⟩
 ·(repeat' first|refine vs ?_|fail)
  refine pi ?_
  rw[show i=p.l.length by omega,List.take_length,Ep]
mutual
def iK:Int→Pol→Prop
 |d,.mk k n s t l=>d≤4∧jk (.mk k n s t l)∧yG (d+1) l
def yG:Int→List Pol→Prop
 |_,[]=>True
 |d,p::ps=>iK d p∧yG d ps
end
theorem SE:∀ {l:List Pol} {d:Int},yG d l↔∀ x∈l,iK d x
 |[],d=>by simp[yG]
 |p::ps,d=>by simp only[yG,List.mem_cons,forall_eq_or_imp,SE (l:=ps)]
theorem uH {d:Int} {x:Pol}:iK d x↔d≤4∧jk x∧∀ y∈x.l,iK (d+1) y:=by
 cases x with
 |mk k n s t l=>rw[←SE];simp only[iK,Pol.l]
theorem Jb (p:Pol):Cel.ok p→∀ {h:AH} {d:Int} {v:AV} {F:List Nat},0≤d→au h v p.l F→aN Tryz.prog qG [.agg (p.cs v),.int .i64 d] h (.bool (bp (iK d p))):=by
 refine iB (p:=fun p=>Cel.ok p→∀ {h:AH} {d:Int} {v:AV} {F:List Nat},0≤d→au h v p.l F→aN Tryz.prog qG [.agg (p.cs v),.int .i64 d] h (.bool (bp (iK d p)))) ?_ p
 intro p ih ok h d v F hd r
 refine reader (ahq _ _) (by simp only[old]) ?_
 unfold Qm
 have hsm:=r.small
 obtain⟨-,-,okl⟩:=EL ok
 (repeat' first|refine vs ?_|(refine br ?_ ?_<;>first|exact bx|intro _)|((with_reducible refine aB CJ ?_);(refine aX (ain ok ah) ?_ ?_<;>intro hn))|fail)
 all_goals first
  |(refine pf ?_;rw[uH];rintro⟨a1,a2,a3⟩;first|contradiction|omega)
  |skip
 refine aY p.l.length (fun i vs h1=>vs=[.int .i64 (i:Int)]∧i≤p.l.length∧Ext (h.push ⟨p.cs v,0,0⟩) h1∧bW p.l (fun _ x=>iK (d+1) x) i) ⟨rfl,Nat.zero_le _,aG,up0⟩ ?_
 rintro i vs h1 _ ⟨rfl,hi,e1,hu⟩
 simp only[g0]
 refine vs ?_
 refine br (fun hlt=>?_) (fun hge=>?_)
 ·obtain⟨x,hx,-,-⟩:=aR (show i < p.l.length by omega)
  have hm:=List.mem_of_getElem? hx
  refine vs ?_
  refine bS r hx rfl ?_
  intro bb o cs Fi aa q _
  rw[Pol.bX] at q
  obtain⟨w,rfl,q⟩:=q
  have Jb:=@ih x hm (okl x hm)
  (repeat' first|refine vs ?_|((with_reducible refine aB qG ?_);(refine aX (Jb aP ah) ?_ ?_<;>intro hd2))|fail)
  ·exact⟨by omega,rfl,by omega,aG,upS hu hx hd2⟩
  ·refine pf ?_
   rw[uH]
   rintro⟨a1,a2,a3⟩
   exact hd2 (a3 x hm)
 ·(repeat' first|refine vs ?_|fail)
  rw[show i=p.l.length by omega] at hu
  refine pt ?_
  rw[uH]
  exact⟨by omega,hn,dX hu⟩
noncomputable def parts (d:Int) (p:Pol):Int:=if bp (iK d p∧dO p≤12)=true then dO p else 13
theorem Uo {d:Int} {p:Pol} (h1:iK d p) (h2:dO p≤12):parts d p=dO p:=by unfold parts;rw[if_pos (eD ⟨h1,h2⟩)]
theorem Kg {d:Int} {p:Pol} (h: ¬ (iK d p∧dO p≤12)):parts d p=13:=by unfold parts;rw[fU h,if_neg (by decide)]
theorem Uq (d:Int) (p:Pol):(parts d p=dO p∧iK d p∧dO p≤12)∨(parts d p=13∧¬ (iK d p∧dO p≤12)):=by
 by_cases h:iK d p∧dO p≤12
 ·exact .inl ⟨Uo h.1 h.2,h⟩
 ·exact .inr ⟨Kg h,h⟩
theorem Ir (p:Pol):Cel.ok p→∀ {h:AH} {d:Int} {v:AV} {F:List Nat},0≤d→au h v p.l F→aN Tryz.prog qA [.agg (p.cs v),.int .i64 d] h (.int .i64 (parts d p)):=by
 refine iB (p:=fun p=>Cel.ok p→∀ {h:AH} {d:Int} {v:AV} {F:List Nat},0≤d→au h v p.l F→aN Tryz.prog qA [.agg (p.cs v),.int .i64 d] h (.int .i64 (parts d p))) ?_ p
 intro p ih ok h d v F hd r
 refine reader (ad9 _ _) (by simp only[old]) ?_
 unfold NW
 have hsm:=r.small
 obtain⟨-,-,okl⟩:=EL ok
 (repeat' first|refine vs ?_|(refine br ?_ ?_<;>first|exact bx|intro _)|((with_reducible refine aB Ad ?_);(refine aX (abx ok ah) ?_ ?_<;>intro hn))|fail)
 all_goals first
  |(refine pi (Kg ?_).symm;rw[uH];rintro⟨⟨a1,a2,a3⟩,a4⟩;first|contradiction|omega)
  |skip
 refine aY p.l.length (fun i vs h1=>vs=[.int .i64 (1+cB dO (p.l.take i)),.int .i64 (i:Int)]∧i≤p.l.length∧Ext (h.push ⟨p.cs v,0,0⟩) h1∧bW p.l (fun _ x=>iK (d+1) x) i∧1+cB dO (p.l.take i)≤12) ⟨rfl,Nat.zero_le _,aG,up0,by simp[cB]⟩ ?_
 rintro i vs h1 _ ⟨rfl,hi,e1,hu,hc⟩
 simp only[g0,g1]
 refine br (fun hlt=>?_) (fun hge=>?_)
 ·obtain⟨x,hx,-,ht⟩:=aR (show i < p.l.length by omega)
  have hm:=List.mem_of_getElem? hx
  have h6:=yI x
  have h7:=J5 p.l i
  have h8:=J5 p.l (i+1)
  rw[lS _ ht] at h8
  have h9:=Ep p
  have h10:=Uq (d+1) x
  refine vs ?_
  refine bS r hx rfl ?_
  intro bb o cs Fi aa q _
  rw[Pol.bX] at q
  obtain⟨w,rfl,q⟩:=q
  have Ir:=@ih x hm (okl x hm)
  (repeat' first|refine vs ?_|(refine br ?_ ?_<;>first|exact bx|intro _)|((with_reducible refine aB qA ?_);refine aQ (Ir aP ah) ?_)|fail)
  ·refine pi (Kg ?_).symm
   rw[uH]
   rintro⟨⟨a1,a2,a3⟩,a4⟩
   have:=a3 x hm
   rcases h10 with⟨b1,b2,b3⟩|⟨b1,b2⟩
   ·omega
   ·exact b2 ⟨this,by omega⟩
  ·rcases h10 with⟨b1,b2,b3⟩|⟨b1,b2⟩
   ·exact⟨by omega,by rw[lS _ ht,Int.add_assoc,b1],by omega,aG,upS hu hx b2,by rw[lS _ ht];omega⟩
   ·exfalso;omega
 ·(repeat' first|refine vs ?_|fail)
  have e:i=p.l.length:=by omega
  rw[e,List.take_length] at hc
  rw[e] at hu
  have h9:=Ep p
  rw[e,List.take_length,←h9]
  refine pi (Uo ?_ (by omega)).symm
  rw[uH]
  exact⟨by omega,hn,dX hu⟩
def KN (p:Pol):Prop:=iK 1 p∧dO p≤12
theorem aiv {h:AH} {p:Pol} {v:AV} {F:List Nat} (ok:Cel.ok p) (r:au h v p.l F):aN Tryz.prog CP [.agg (p.cs v)] h (.bool (bp (KN p))):=by
 refine reader (aiM _) (by simp only[old]) ?_
 unfold RB
 have h10:=Uq 1 p
 (repeat' first|refine vs ?_|(refine br ?_ ?_<;>first|exact bx|intro _)|((with_reducible refine aB qA ?_);refine aQ (Ir p ok aP ah) ?_)|fail)
 ·rcases h10 with⟨b1,b2,b3⟩|⟨b1,b2⟩
  ·exact pt ⟨b2,b3⟩
  ·exfalso;omega
 ·rcases h10 with⟨b1,b2,b3⟩|⟨b1,b2⟩
  ·exfalso;omega
  ·exact pf b2
theorem aiq {h:AH} {p:Pol} {v:AV} {F:List Nat} (ok:Cel.ok p) (hs:Sz.sz p≤67108864) (r:au h v p.l F):aN Tryz.prog CO [.agg (p.cs v)] h (.bool (bp (KN p))):=by
 refine reader (aiE _) (by simp only[old]) ?_
 unfold Rt
 (repeat' first|refine vs ?_|(refine br ?_ ?_<;>first|exact bx|intro _)|((with_reducible refine aB qw ?_);refine aQ (Il p hs ah) ?_)|((with_reducible refine aB qG ?_);(refine aX (Jb p ok aP ah) ?_ ?_<;>intro hn))|fail)
 all_goals first
  |exact pt ⟨by assumption,by assumption⟩
  |exact pf fun k=>by obtain⟨a1,a2⟩:=k;contradiction
def yH (c:fF):Prop:=(1≤c.bZ∧c.bZ≤3)∧(1≤c.wait∧c.wait≤50)∧(1≤c.budget∧c.budget≤190)∧(1≤c.cache∧c.cache≤6)∧(1≤c.queue∧c.queue≤4)∧(0≤c.rate∧c.rate≤99)∧(0≤c.aW∧c.aW≤999)∧KN c.rule
theorem ahe {h:AH} {c:fF} {v:AV} {F:List Nat} (ok:Cel.ok c.rule) (r:au h v c.rule.l F):aN Tryz.prog CB [.agg (c.cs v)] h (.bool (bp (yH c))):=by
 refine reader (aii _) (by simp only[old]) ?_
 unfold Rh
 (repeat' first|refine vs ?_|((with_reducible refine aB bK ?_);(refine cK eY ?_ ?_<;>intro hb<;>first|replace hb:=dx hb|replace hb:=dz hb))|((with_reducible refine aB CP ?_);(refine aX (aiv (p:=c.rule) ok ah) ?_ ?_<;>intro hn))|fail)
 all_goals first
  |exact pt ⟨by omega,by omega,by omega,by omega,by omega,by omega,by omega,by assumption⟩
  |exact pf fun k=>by obtain⟨a1,a2,a3,a4,a5,a6,a7,a8⟩:=k;contradiction
theorem agQ {h:AH} {c:fF} {v:AV} {F:List Nat} (ok:Cel.ok c.rule) (hs:Sz.sz c≤67108864) (r:au h v c.rule.l F):aN Tryz.prog Co [.agg (c.cs v)] h (.bool (bp (yH c))):=by
 refine reader (ahG _) (by simp only[old]) ?_
 unfold QB
 (repeat' first|refine vs ?_|((with_reducible refine aB bP ?_);(refine cK fV ?_ ?_<;>intro hb<;>first|replace hb:=dx hb|replace hb:=dz hb))|((with_reducible refine aB CO ?_);(refine aX (aiq (p:=c.rule) ok hs ah) ?_ ?_<;>intro hn))|fail)
 all_goals first
  |exact pt ⟨by omega,by omega,by omega,by omega,by omega,by omega,by omega,by assumption⟩
  |exact pf fun k=>by obtain⟨a1,a2,a3,a4,a5,a6,a7,a8⟩:=k;contradiction
end Go.Proofs.YtekfdoknfcedpaaGreat
