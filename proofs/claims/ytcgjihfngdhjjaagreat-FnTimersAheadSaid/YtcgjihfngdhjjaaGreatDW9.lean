import Derived.Test.YtcgjihfngdhjjaaGreatDKW1
set_option linter.unusedSimpArgs false
set_option linter.unusedVariables false
set_option maxHeartbeats 1000000
namespace Go.Proofs.YtcgjihfngdhjjaaGreat
open Go Go.Ab
section
def OJ (x0:AV):Prog:=.op (.box x0) fun a=>Lg 1 a fun b=>Bn .eql b (.int .i64 0) fun b=>Gf b true 2 a fun c=>.gop b true (.bin 1 .eql c (.str ⟨#[]⟩)) fun c=>Pk b c (.bool false) fun b=>Gf b true 3 a fun c=>.gop b true (.bin 1 .eql c (.str ⟨#[]⟩)) fun c=>Pk b c (.bool false) fun b=>Lg 0 a fun c=>Bn .eql c (.int .i64 1) fun d=>.scope (.ite d (.leaf 0 [d]) (Bn .eql c (.int .i64 2) fun a=>.scope (.ite a (.leaf 0 [a]) (Bn .eql c (.int .i64 6) fun a=>.leaf 0 [a])) (fun a=>.leaf 0 [g a 0]) fun a b=>aC a 1 (.leaf 1 b) .bad)) (fun d=>.ite (g d 0) (Gf b true 4 a fun a=>.gop b true (.len 0 a) fun a=>.gop b true (.bin 0 .eql a (.int .i64 0)) fun a=>Pk b a (.bool false) fun a=>.fin [.val a]) (Bn .eql c (.int .i64 3) fun d=>.ite d (Lg 1 a fun b=>Cl bT [b,.int .i64 0,.int .i64 2147483647] fun b=>Gf b true 2 a fun c=>.gop b true (.bin 1 .eql c (.str ⟨#[]⟩)) fun c=>Pk b c (.bool false) fun b=>Gf b true 3 a fun c=>.gop b true (.bin 1 .eql c (.str ⟨#[]⟩)) fun c=>Pk b c (.bool false) fun b=>Gf b true 4 a fun a=>.gop b true (.len 0 a) fun a=>.gop b true (.bin 0 .eql a (.int .i64 0)) fun a=>Pk b a (.bool false) fun a=>.fin [.val a]) (Bn .eql c (.int .i64 4) fun d=>.ite d (Lg 1 a fun b=>Bn .eql b (.int .i64 0) fun b=>Gf b true 2 a fun c=>.gop b true (.call uJ [c]) fun c=>Pk b c (.bool false) fun b=>Gf b true 3 a fun c=>.gop b true (.call yI [c]) fun c=>Pk b c (.bool false) fun b=>Gf b true 4 a fun a=>.gop b true (.len 0 a) fun a=>.gop b true (.bin 0 .eql a (.int .i64 0)) fun a=>Pk b a (.bool false) fun a=>.fin [.val a]) (Bn .eql c (.int .i64 5) fun d=>.ite d (Lg 1 a fun b=>Cl bT [b,.int .i64 0,.int .i64 2147483647] fun b=>Gf b true 2 a fun c=>.gop b true (.call uJ [c]) fun c=>Pk b c (.bool false) fun b=>Gf b true 3 a fun c=>.gop b true (.bin 1 .eql c (.str ⟨#[]⟩)) fun c=>Pk b c (.bool false) fun b=>Gf b true 4 a fun a=>.gop b true (.len 0 a) fun a=>.gop b true (.bin 0 .eql a (.int .i64 0)) fun a=>Pk b a (.bool false) fun a=>.fin [.val a]) (Bn .eql c (.int .i64 7) fun d=>.scope (.ite d (.leaf 0 [d]) (Bn .eql c (.int .i64 8) fun a=>.leaf 0 [a])) (fun d=>.ite (g d 0) (Gf b true 4 a fun a=>.gop b true (.len 0 a) fun a=>.gop b true (.call bT [a,.int .i64 1,.int .i64 4]) fun a=>Pk b a (.bool false) fun a=>.fin [.val a]) (Bn .eql c (.int .i64 9) fun c=>.ite c (Gf b true 4 a fun a=>.gop b true (.len 0 a) fun a=>.gop b true (.bin 0 .eql a (.int .i64 1)) fun a=>Pk b a (.bool false) fun a=>.fin [.val a]) (.fin [.val (.bool false)]))) fun a b=>aC a 1 (.leaf 1 b) .bad))))) fun a b=>aC a 1 (.leaf 1 b) .bad
theorem aaW (x0:AV):CC Tryz.prog En [x0] (OJ x0):=cc Tryz.func221 [1,3,18,19,93] (fun _=>[])
def Sd (x0:AV):Prog:=.op (.box x0) fun a=>Lg 0 a fun b=>Bn .eql b (.int .i64 1) fun c=>.scope (.ite c (.leaf 0 [c]) (Bn .eql b (.int .i64 2) fun a=>.scope (.ite a (.leaf 0 [a]) (Bn .eql b (.int .i64 6) fun a=>.leaf 0 [a])) (fun a=>.leaf 0 [g a 0]) fun a b=>aC a 1 (.leaf 1 b) .bad)) (fun c=>.ite (g c 0) (Lg 1 a fun b=>Bn .eql b (.int .i64 0) fun b=>Gf b true 2 a fun c=>.gop b true (.bin 1 .eql c (.str ⟨#[]⟩)) fun c=>Pk b c (.bool false) fun b=>Gf b true 3 a fun c=>.gop b true (.bin 1 .eql c (.str ⟨#[]⟩)) fun c=>Pk b c (.bool false) fun b=>Gf b true 4 a fun a=>.gop b true (.len 0 a) fun a=>.gop b true (.bin 0 .eql a (.int .i64 0)) fun a=>Pk b a (.bool false) fun a=>.fin [.val a]) (Bn .eql b (.int .i64 3) fun c=>.ite c (Lg 1 a fun b=>Cl dJ [b,.int .i64 0,.int .i64 2147483647] fun b=>Gf b true 2 a fun c=>.gop b true (.bin 1 .eql c (.str ⟨#[]⟩)) fun c=>Pk b c (.bool false) fun b=>Gf b true 3 a fun c=>.gop b true (.bin 1 .eql c (.str ⟨#[]⟩)) fun c=>Pk b c (.bool false) fun b=>Gf b true 4 a fun a=>.gop b true (.len 0 a) fun a=>.gop b true (.bin 0 .eql a (.int .i64 0)) fun a=>Pk b a (.bool false) fun a=>.fin [.val a]) (Bn .eql b (.int .i64 4) fun c=>.ite c (Lg 1 a fun b=>Bn .eql b (.int .i64 0) fun b=>Gf b true 2 a fun c=>.gop b true (.call wG [c]) fun c=>Pk b c (.bool false) fun b=>Gf b true 3 a fun c=>.gop b true (.call yH [c]) fun c=>Pk b c (.bool false) fun b=>Gf b true 4 a fun a=>.gop b true (.len 0 a) fun a=>.gop b true (.bin 0 .eql a (.int .i64 0)) fun a=>Pk b a (.bool false) fun a=>.fin [.val a]) (Bn .eql b (.int .i64 5) fun c=>.ite c (Lg 1 a fun b=>Cl dJ [b,.int .i64 0,.int .i64 2147483647] fun b=>Gf b true 2 a fun c=>.gop b true (.call wG [c]) fun c=>Pk b c (.bool false) fun b=>Gf b true 3 a fun c=>.gop b true (.bin 1 .eql c (.str ⟨#[]⟩)) fun c=>Pk b c (.bool false) fun b=>Gf b true 4 a fun a=>.gop b true (.len 0 a) fun a=>.gop b true (.bin 0 .eql a (.int .i64 0)) fun a=>Pk b a (.bool false) fun a=>.fin [.val a]) (Bn .eql b (.int .i64 7) fun c=>.scope (.ite c (.leaf 0 [c]) (Bn .eql b (.int .i64 8) fun a=>.leaf 0 [a])) (fun b=>.ite (g b 0) (Lg 1 a fun b=>Bn .eql b (.int .i64 0) fun b=>Gf b true 2 a fun c=>.gop b true (.bin 1 .eql c (.str ⟨#[]⟩)) fun c=>Pk b c (.bool false) fun b=>Gf b true 3 a fun c=>.gop b true (.bin 1 .eql c (.str ⟨#[]⟩)) fun c=>Pk b c (.bool false) fun b=>Gf b true 4 a fun a=>.gop b true (.len 0 a) fun a=>.gop b true (.call dJ [a,.int .i64 1,.int .i64 4]) fun a=>Pk b a (.bool false) fun a=>.fin [.val a]) (Lg 0 a fun b=>Bn .eql b (.int .i64 9) fun b=>Gf b true 1 a fun c=>.gop b true (.bin 0 .eql c (.int .i64 0)) fun c=>Pk b c (.bool false) fun b=>Gf b true 2 a fun c=>.gop b true (.bin 1 .eql c (.str ⟨#[]⟩)) fun c=>Pk b c (.bool false) fun b=>Gf b true 3 a fun c=>.gop b true (.bin 1 .eql c (.str ⟨#[]⟩)) fun c=>Pk b c (.bool false) fun b=>Gf b true 4 a fun a=>.gop b true (.len 0 a) fun a=>.gop b true (.bin 0 .eql a (.int .i64 1)) fun a=>Pk b a (.bool false) fun a=>.fin [.val a])) fun a b=>aC a 1 (.leaf 1 b) .bad))))) fun a b=>aC a 1 (.leaf 1 b) .bad
theorem aeF (x0:AV):CC Tryz.prog FM [x0] (Sd x0):=cc Tryz.func250 [1,4,5,91] (fun _=>[])
def Px (x0 x1:AV):Prog:=.op (.box x0) fun a=>Bn .gtr x1 (.int .i64 4) fun b=>.gop b false (.ldn 5 a) fun c=>.gop b false (.call En [c]) fun c=>.gop b false (.una .not c) fun c=>Pk b (.bool true) c fun b=>.ite b (.fin [.val (.int .i64 13)]) (Lg 4 a fun a=>Ln 0 a fun b=>.loop [.int .i64 1,.int .i64 0] (fun c=>Bn .lss (g c 1) b fun b=>.ite b (Ix 5 a (g c 1) fun a=>Ld 5 a fun a=>.op (.alloc mq) fun b=>.op (.st 5 b a) fun _=>Ld 5 b fun a=>Bn .add x1 (.int .i64 1) fun b=>Cl wm [a,b] fun a=>Bn .add (g c 0) a fun a=>Bn .geq a (.int .i64 13) fun b=>.ite b (.fin [.val (.int .i64 13)]) (Bn .add (g c 1) (.int .i64 1) fun b=>.leaf 0 [a,b])) (.leaf 2 [g c 0,g c 1])) fun a b=>aC a 1 (.leaf 1 b) (aC a 2 (.fin [.val (g b 0)]) .bad))
theorem abL (x0 x1:AV):CC Tryz.prog wm [x0,x1] (Px x0 x1):=cc Tryz.func151 [1,5,16,17,18] (fun _=>[])
def Ri (x0 x1:AV):Prog:=.op (.box x0) fun a=>Bn .gtr x1 (.int .i64 4) fun b=>.gop b false (.ldn 5 a) fun c=>.gop b false (.call FM [c]) fun c=>.gop b false (.una .not c) fun c=>Pk b (.bool true) c fun b=>.ite b (.fin [.val (.bool false)]) (.loop [.int .i64 0] (fun b=>Lg 4 a fun c=>Ln 0 c fun c=>Bn .lss (g b 0) c fun c=>.ite c (Lg 4 a fun a=>Ix 5 a (g b 0) fun a=>Ld 5 a fun a=>Bn .add x1 (.int .i64 1) fun c=>Cl wC [a,c] fun a=>.op (.una .not a) fun a=>.ite a (.fin [.val (.bool false)]) (Bn .add (g b 0) (.int .i64 1) fun a=>.leaf 0 [a])) (.leaf 2 [g b 0])) fun a b=>aC a 1 (.leaf 1 b) (aC a 2 (.fin [.val (.bool true)]) .bad))
theorem adK (x0 x1:AV):CC Tryz.prog wC [x0,x1] (Ri x0 x1):=cc Tryz.func211 [1,2,5] (fun _=>[])
def Pg (x0:AV):Prog:=.op (.box x0) fun a=>.loop [.int .i64 1,.int .i64 0] (fun b=>Lg 4 a fun c=>Ln 0 c fun c=>Bn .lss (g b 1) c fun c=>.ite c (Lg 4 a fun a=>Ix 5 a (g b 1) fun a=>Ld 5 a fun a=>Cl vY [a] fun a=>Bn .add (g b 0) a fun a=>Bn .add (g b 1) (.int .i64 1) fun b=>.leaf 0 [a,b]) (.leaf 2 [g b 0,g b 1])) fun a b=>aC a 1 (.leaf 1 b) (aC a 2 (.fin [.val (g b 0)]) .bad)
theorem abA (x0:AV):CC Tryz.prog vY [x0] (Pg x0):=cc Tryz.func210 [1,3,4] (fun _=>[])
def SB (x0:AV):Prog:=.op (.box x0) fun a=>Ld 5 a fun b=>Cl vY [b] fun b=>Bn .leq b (.int .i64 12) fun b=>.gop b true (.ldn 5 a) fun a=>.gop b true (.call wC [a,.int .i64 1]) fun a=>Pk b a (.bool false) fun a=>.fin [.val a]
theorem aeT (x0:AV):CC Tryz.prog FU [x0] (SB x0):=cc Tryz.func134
def SG (x0:AV):Prog:=.op (.box x0) fun a=>Ld 5 a fun a=>Cl wm [a,.int .i64 1] fun a=>Bn .leq a (.int .i64 12) fun a=>.fin [.val a]
theorem aeX (x0:AV):CC Tryz.prog FX [x0] (SG x0):=cc Tryz.func86
def RU (x0:AV):Prog:=.op (.box x0) fun a=>Lg 0 a fun b=>Cl bT [b,.int .i64 1,.int .i64 3] fun b=>Gf b true 1 a fun c=>.gop b true (.call bT [c,.int .i64 1,.int .i64 50]) fun c=>Pk b c (.bool false) fun b=>Gf b true 2 a fun c=>.gop b true (.call bT [c,.int .i64 1,.int .i64 190]) fun c=>Pk b c (.bool false) fun b=>Gf b true 3 a fun c=>.gop b true (.call bT [c,.int .i64 1,.int .i64 6]) fun c=>Pk b c (.bool false) fun b=>Gf b true 4 a fun c=>.gop b true (.call bT [c,.int .i64 1,.int .i64 4]) fun c=>Pk b c (.bool false) fun b=>Gf b true 5 a fun c=>.gop b true (.call bT [c,.int .i64 0,.int .i64 99]) fun c=>Pk b c (.bool false) fun b=>Gf b true 6 a fun c=>.gop b true (.call bT [c,.int .i64 0,.int .i64 999]) fun c=>Pk b c (.bool false) fun b=>.gop b true (.fad 7 a) fun a=>.gop b true (.ldn 5 a) fun a=>.gop b true (.call FX [a]) fun a=>Pk b a (.bool false) fun a=>.fin [.val a]
theorem aeh (x0:AV):CC Tryz.prog FI [x0] (RU x0):=cc Tryz.func30
def RA (x0:AV):Prog:=.op (.box x0) fun a=>Lg 0 a fun b=>Cl dJ [b,.int .i64 1,.int .i64 3] fun b=>Gf b true 1 a fun c=>.gop b true (.call dJ [c,.int .i64 1,.int .i64 50]) fun c=>Pk b c (.bool false) fun b=>Gf b true 2 a fun c=>.gop b true (.call dJ [c,.int .i64 1,.int .i64 190]) fun c=>Pk b c (.bool false) fun b=>Gf b true 3 a fun c=>.gop b true (.call dJ [c,.int .i64 1,.int .i64 6]) fun c=>Pk b c (.bool false) fun b=>Gf b true 4 a fun c=>.gop b true (.call dJ [c,.int .i64 1,.int .i64 4]) fun c=>Pk b c (.bool false) fun b=>Gf b true 5 a fun c=>.gop b true (.call dJ [c,.int .i64 0,.int .i64 99]) fun c=>Pk b c (.bool false) fun b=>Gf b true 6 a fun c=>.gop b true (.call dJ [c,.int .i64 0,.int .i64 999]) fun c=>Pk b c (.bool false) fun b=>.gop b true (.fad 7 a) fun a=>.gop b true (.ldn 5 a) fun a=>.gop b true (.call FU [a]) fun a=>Pk b a (.bool false) fun a=>.fin [.val a]
theorem ad4 (x0:AV):CC Tryz.prog FB [x0] (RA x0):=cc Tryz.func64
end
def lF (p:Pol):Prop:=p.n=0∧p.key=⟨#[]⟩∧p.text=⟨#[]⟩
def jS (p:Pol):Prop:=
 ((p.kind=1∨p.kind=2∨p.kind=6)∧lF p∧(p.l.length:Int)=0)∨
 (p.kind=3∧(0≤p.n∧p.n≤2147483647)∧p.key=⟨#[]⟩∧p.text=⟨#[]⟩∧(p.l.length:Int)=0)∨
 (p.kind=4∧p.n=0∧kN p.key∧ni p.text∧(p.l.length:Int)=0)∨
 (p.kind=5∧(0≤p.n∧p.n≤2147483647)∧kN p.key∧p.text=⟨#[]⟩∧(p.l.length:Int)=0)∨
 ((p.kind=7∨p.kind=8)∧lF p∧1≤(p.l.length:Int)∧(p.l.length:Int)≤4)∨
 (p.kind=9∧lF p∧(p.l.length:Int)=1)
theorem H7 {p:Pol} (ok:Cel.ok p):p.key.size≤maxLen∧p.text.size≤maxLen∧∀ y∈p.l,Cel.ok y:=by
 cases p with
 |mk k n s t l=>exact⟨ok.2.2.1,ok.2.2.2.1,Pol.Md.1 ok.2.2.2.2⟩
theorem aaH {h:AH} {p:Pol} {v:AV} {F:List Nat} (ok:Cel.ok p) (r:ah h v p.l F):aP Tryz.prog En [.agg (p.cs v)] h (.bool (bp (jS p))):=by
 refine reader (aaW _) (by simp only[old]) ?_
 unfold OJ
 obtain⟨k1,k3,-⟩:=H7 ok
 (repeat' first|refine vs ?_|(refine br ?_ ?_<;>first|exact bx|intro _)|((with_reducible refine aG uJ ?_);(refine bC (Q7 k1) ?_ ?_<;>intro hn))|((with_reducible refine aG yI ?_);(refine bC (P5 k3) ?_ ?_<;>intro hp))|((with_reducible refine aG bT ?_);(refine dS jG ?_ ?_<;>intro hb<;>first|replace hb:=fE hb|replace hb:=fG hb))|refine gS ?_|fail)
 all_goals first
  |(refine pt ?_;unfold jS lF;simp_all;done)
  |(refine pf ?_;unfold jS lF;simp_all;done)
  |(refine pf ?_;unfold jS lF;simp_all;omega)
  |(refine pt ?_;unfold jS lF;simp_all;omega)
  |(refine pf ?_;unfold jS lF;simp_all;intros;omega)
theorem ael {h:AH} {p:Pol} {v:AV} {F:List Nat} (ok:Cel.ok p) (r:ah h v p.l F):aP Tryz.prog FM [.agg (p.cs v)] h (.bool (bp (jS p))):=by
 refine reader (aeF _) (by simp only[old]) ?_
 unfold Sd
 obtain⟨k1,k3,-⟩:=H7 ok
 (repeat' first|refine vs ?_|(refine br ?_ ?_<;>first|exact bx|intro _)|((with_reducible refine aG wG ?_);(refine bC (Q0 k1) ?_ ?_<;>intro hn))|((with_reducible refine aG yH ?_);(refine bC (PV k3) ?_ ?_<;>intro hp))|((with_reducible refine aG dJ ?_);(refine dS j5 ?_ ?_<;>intro hb<;>first|replace hb:=fE hb|replace hb:=fG hb))|refine gS ?_|fail)
 all_goals first
  |(refine pt ?_;unfold jS lF;simp_all;done)
  |(refine pf ?_;unfold jS lF;simp_all;done)
  |(refine pf ?_;unfold jS lF;simp_all;omega)
  |(refine pt ?_;unfold jS lF;simp_all;omega)
  |(refine pf ?_;unfold jS lF;simp_all;intros;omega)
mutual
def dZ:Pol→Int
 | .mk _ _ _ _ l=>1+Dj l
def Dj:List Pol→Int
 |[]=>0
 |p::ps=>dZ p+Dj ps
end
theorem Vl:∀ l:List Pol,Dj l=bD dZ l
 |[]=>by simp[Dj,bD]
 |p::ps=>by simp only[Dj,bD,Vl ps]
theorem zH (x:Pol):dZ x=1+bD dZ x.l:=by
 cases x with
 |mk k n s t l=>rw[←Vl];simp only[dZ,Pol.l]
theorem GA {l:List Pol} (hb:∀ x∈l,1≤dZ x∧dZ x≤1+(Sz.sz x:Nat)):0≤bD dZ l∧bD dZ l≤l.length+(szs l:Nat):=by
 induction l with
 |nil=>simp[bD,szs]
 |cons x l ih=>
  have h1:=hb x (by simp);have h2:=ih fun y hy=>hb y (by simp[hy])
  simp only[bD,szs,List.length_cons];omega
theorem CP (x:Pol):1≤dZ x∧dZ x≤1+(Sz.sz x:Nat):=by
 refine sN (p:=fun x=>1≤dZ x∧dZ x≤1+(Sz.sz x:Nat)) ?_ x
 intro x ih
 have h1:=GA ih
 have h2:=Pol.Ip x
 rw[zH];omega
theorem LQ (l:List Pol) (i:Nat):0≤bD dZ (l.take i)∧bD dZ (l.take i)≤bD dZ l:=by
 have h1:=GA (l:=l.take i) fun x _=>CP x
 have h2:=GA (l:=l.drop i) fun x _=>CP x
 have h3:=qG dZ (l.take i) (l.drop i)
 rw[List.take_append_drop] at h3
 omega
theorem JR (p:Pol):Sz.sz p≤67108864→∀ {h:AH} {v:AV} {F:List Nat},ah h v p.l F→aP Tryz.prog vY [.agg (p.cs v)] h (.int .i64 (dZ p)):=by
 refine sN (p:=fun p=>Sz.sz p≤67108864→∀ {h:AH} {v:AV} {F:List Nat},ah h v p.l F→aP Tryz.prog vY [.agg (p.cs v)] h (.int .i64 (dZ p))) ?_ p
 intro p ih hs h v F r
 refine reader (abA _) (by simp only[old]) ?_
 unfold Pg
 have hsz:=Pol.Ip p
 have hsm:=r.small
 refine vs ?_
 refine aX p.l.length (fun i vs h1=>vs=[.int .i64 (1+bD dZ (p.l.take i)),.int .i64 (i:Int)]∧i≤p.l.length∧Ext (h.push ⟨p.cs v,0,0⟩) h1) ⟨rfl,Nat.zero_le _,aI⟩ ?_
 rintro i vs h1 _ ⟨rfl,hi,e1⟩
 simp only[g0,g1]
 refine vs ?_
 refine br (fun hlt=>?_) (fun hge=>?_)
 ·obtain⟨x,hx,-,ht⟩:=aU (show i < p.l.length by omega)
  have hm:=List.mem_of_getElem? hx
  have h5:=dh hm
  have h6:=CP x
  have h7:=LQ p.l i
  have h8:=GA (l:=p.l) fun x _=>CP x
  refine vs ?_
  refine dw r hx rfl ?_
  intro bb o cs Fi aa q _
  rw[Pol.gD] at q
  obtain⟨w,rfl,q⟩:=q
  have JR:=@ih x hm (by omega)
  (repeat' first|refine vs ?_|((with_reducible refine aG vY ?_);refine aQ (JR aB) ?_)|fail)
  exact⟨by omega,by rw[rZ _ ht,Int.add_assoc],by omega,aI⟩
 ·(repeat' first|refine vs ?_|fail)
  refine pi ?_
  rw[show i=p.l.length by omega,List.take_length,zH]
mutual
def jF:Int→Pol→Prop
 |d,.mk k n s t l=>d≤4∧jS (.mk k n s t l)∧CO (d+1) l
def CO:Int→List Pol→Prop
 |_,[]=>True
 |d,p::ps=>jF d p∧CO d ps
end
theorem TW:∀ {l:List Pol} {d:Int},CO d l↔∀ x∈l,jF d x
 |[],d=>by simp[CO]
 |p::ps,d=>by simp only[CO,List.mem_cons,forall_eq_or_imp,TW (l:=ps)]
theorem uK {d:Int} {x:Pol}:jF d x↔d≤4∧jS x∧∀ y∈x.l,jF (d+1) y:=by
 cases x with
 |mk k n s t l=>rw[←TW];simp only[jF,Pol.l]
theorem Kt (p:Pol):Cel.ok p→∀ {h:AH} {d:Int} {v:AV} {F:List Nat},0≤d→ah h v p.l F→aP Tryz.prog wC [.agg (p.cs v),.int .i64 d] h (.bool (bp (jF d p))):=by
 refine sN (p:=fun p=>Cel.ok p→∀ {h:AH} {d:Int} {v:AV} {F:List Nat},0≤d→ah h v p.l F→aP Tryz.prog wC [.agg (p.cs v),.int .i64 d] h (.bool (bp (jF d p)))) ?_ p
 intro p ih ok h d v F hd r
 refine reader (adK _ _) (by simp only[old]) ?_
 unfold Ri
 have hsm:=r.small
 obtain⟨-,-,okl⟩:=H7 ok
 (repeat' first|refine vs ?_|(refine br ?_ ?_<;>first|exact bx|intro _)|((with_reducible refine aG FM ?_);(refine bC (ael ok aB) ?_ ?_<;>intro hn))|fail)
 all_goals first
  |(refine pf ?_;rw[uK];rintro⟨a1,a2,a3⟩;first|contradiction|omega)
  |skip
 refine aX p.l.length (fun i vs h1=>vs=[.int .i64 (i:Int)]∧i≤p.l.length∧Ext (h.push ⟨p.cs v,0,0⟩) h1∧eZ p.l (fun _ x=>jF (d+1) x) i) ⟨rfl,Nat.zero_le _,aI,up0⟩ ?_
 rintro i vs h1 _ ⟨rfl,hi,e1,hu⟩
 simp only[g0]
 refine vs ?_
 refine br (fun hlt=>?_) (fun hge=>?_)
 ·obtain⟨x,hx,-,-⟩:=aU (show i < p.l.length by omega)
  have hm:=List.mem_of_getElem? hx
  refine vs ?_
  refine dw r hx rfl ?_
  intro bb o cs Fi aa q _
  rw[Pol.gD] at q
  obtain⟨w,rfl,q⟩:=q
  have Kt:=@ih x hm (okl x hm)
  (repeat' first|refine vs ?_|((with_reducible refine aG wC ?_);(refine bC (Kt aV aB) ?_ ?_<;>intro hd2))|fail)
  ·exact⟨by omega,rfl,by omega,aI,upS hu hx hd2⟩
  ·refine pf ?_
   rw[uK]
   rintro⟨a1,a2,a3⟩
   exact hd2 (a3 x hm)
 ·(repeat' first|refine vs ?_|fail)
  rw[show i=p.l.length by omega] at hu
  refine pt ?_
  rw[uK]
  exact⟨by omega,hn,jV hu⟩
noncomputable def parts (d:Int) (p:Pol):Int:=if bp (jF d p∧dZ p≤12)=true then dZ p else 13
theorem VL {d:Int} {p:Pol} (h1:jF d p) (h2:dZ p≤12):parts d p=dZ p:=by unfold parts;rw[if_pos (fK ⟨h1,h2⟩)]
theorem Mc {d:Int} {p:Pol} (h: ¬ (jF d p∧dZ p≤12)):parts d p=13:=by unfold parts;rw[gM h,if_neg (by decide)]
theorem VN (d:Int) (p:Pol):(parts d p=dZ p∧jF d p∧dZ p≤12)∨(parts d p=13∧¬ (jF d p∧dZ p≤12)):=by
 by_cases h:jF d p∧dZ p≤12
 ·exact .inl ⟨VL h.1 h.2,h⟩
 ·exact .inr ⟨Mc h,h⟩
theorem JV (p:Pol):Cel.ok p→∀ {h:AH} {d:Int} {v:AV} {F:List Nat},0≤d→ah h v p.l F→aP Tryz.prog wm [.agg (p.cs v),.int .i64 d] h (.int .i64 (parts d p)):=by
 refine sN (p:=fun p=>Cel.ok p→∀ {h:AH} {d:Int} {v:AV} {F:List Nat},0≤d→ah h v p.l F→aP Tryz.prog wm [.agg (p.cs v),.int .i64 d] h (.int .i64 (parts d p))) ?_ p
 intro p ih ok h d v F hd r
 refine reader (abL _ _) (by simp only[old]) ?_
 unfold Px
 have hsm:=r.small
 obtain⟨-,-,okl⟩:=H7 ok
 (repeat' first|refine vs ?_|(refine br ?_ ?_<;>first|exact bx|intro _)|((with_reducible refine aG En ?_);(refine bC (aaH ok aB) ?_ ?_<;>intro hn))|fail)
 all_goals first
  |(refine pi (Mc ?_).symm;rw[uK];rintro⟨⟨a1,a2,a3⟩,a4⟩;first|contradiction|omega)
  |skip
 refine aX p.l.length (fun i vs h1=>vs=[.int .i64 (1+bD dZ (p.l.take i)),.int .i64 (i:Int)]∧i≤p.l.length∧Ext (h.push ⟨p.cs v,0,0⟩) h1∧eZ p.l (fun _ x=>jF (d+1) x) i∧1+bD dZ (p.l.take i)≤12) ⟨rfl,Nat.zero_le _,aI,up0,by simp[bD]⟩ ?_
 rintro i vs h1 _ ⟨rfl,hi,e1,hu,hc⟩
 simp only[g0,g1]
 refine br (fun hlt=>?_) (fun hge=>?_)
 ·obtain⟨x,hx,-,ht⟩:=aU (show i < p.l.length by omega)
  have hm:=List.mem_of_getElem? hx
  have h6:=CP x
  have h7:=LQ p.l i
  have h8:=LQ p.l (i+1)
  rw[rZ _ ht] at h8
  have h9:=zH p
  have h10:=VN (d+1) x
  refine vs ?_
  refine dw r hx rfl ?_
  intro bb o cs Fi aa q _
  rw[Pol.gD] at q
  obtain⟨w,rfl,q⟩:=q
  have JV:=@ih x hm (okl x hm)
  (repeat' first|refine vs ?_|(refine br ?_ ?_<;>first|exact bx|intro _)|((with_reducible refine aG wm ?_);refine aQ (JV aV aB) ?_)|fail)
  ·refine pi (Mc ?_).symm
   rw[uK]
   rintro⟨⟨a1,a2,a3⟩,a4⟩
   have:=a3 x hm
   rcases h10 with⟨b1,b2,b3⟩|⟨b1,b2⟩
   ·omega
   ·exact b2 ⟨this,by omega⟩
  ·rcases h10 with⟨b1,b2,b3⟩|⟨b1,b2⟩
   ·exact⟨by omega,by rw[rZ _ ht,Int.add_assoc,b1],by omega,aI,upS hu hx b2,by rw[rZ _ ht];omega⟩
   ·exfalso;omega
 ·(repeat' first|refine vs ?_|fail)
  have e:i=p.l.length:=by omega
  rw[e,List.take_length] at hc
  rw[e] at hu
  have h9:=zH p
  rw[e,List.take_length,←h9]
  refine pi (VL ?_ (by omega)).symm
  rw[uK]
  exact⟨by omega,hn,jV hu⟩
def Ir (p:Pol):Prop:=jF 1 p∧dZ p≤12
theorem aez {h:AH} {p:Pol} {v:AV} {F:List Nat} (ok:Cel.ok p) (r:ah h v p.l F):aP Tryz.prog FX [.agg (p.cs v)] h (.bool (bp (Ir p))):=by
 refine reader (aeX _) (by simp only[old]) ?_
 unfold SG
 have h10:=VN 1 p
 (repeat' first|refine vs ?_|(refine br ?_ ?_<;>first|exact bx|intro _)|((with_reducible refine aG wm ?_);refine aQ (JV p ok aV aB) ?_)|fail)
 ·rcases h10 with⟨b1,b2,b3⟩|⟨b1,b2⟩
  ·exact pt ⟨b2,b3⟩
  ·exfalso;omega
 ·rcases h10 with⟨b1,b2,b3⟩|⟨b1,b2⟩
  ·exfalso;omega
  ·exact pf b2
theorem aew {h:AH} {p:Pol} {v:AV} {F:List Nat} (ok:Cel.ok p) (hs:Sz.sz p≤67108864) (r:ah h v p.l F):aP Tryz.prog FU [.agg (p.cs v)] h (.bool (bp (Ir p))):=by
 refine reader (aeT _) (by simp only[old]) ?_
 unfold SB
 (repeat' first|refine vs ?_|(refine br ?_ ?_<;>first|exact bx|intro _)|((with_reducible refine aG vY ?_);refine aQ (JR p hs aB) ?_)|((with_reducible refine aG wC ?_);(refine bC (Kt p ok aV aB) ?_ ?_<;>intro hn))|fail)
 all_goals first
  |exact pt ⟨by assumption,by assumption⟩
  |exact pf fun k=>by obtain⟨a1,a2⟩:=k;contradiction
def nI (c:iQ):Prop:=(1≤c.dK∧c.dK≤3)∧(1≤c.wait∧c.wait≤50)∧(1≤c.budget∧c.budget≤190)∧(1≤c.cache∧c.cache≤6)∧(1≤c.queue∧c.queue≤4)∧(0≤c.rate∧c.rate≤99)∧(0≤c.aZ∧c.aZ≤999)∧Ir c.rule
theorem adB {h:AH} {c:iQ} {v:AV} {F:List Nat} (ok:Cel.ok c.rule) (r:ah h v c.rule.l F):aP Tryz.prog FI [.agg (c.cs v)] h (.bool (bp (nI c))):=by
 refine reader (aeh _) (by simp only[old]) ?_
 unfold RU
 (repeat' first|refine vs ?_|((with_reducible refine aG bT ?_);(refine dS jG ?_ ?_<;>intro hb<;>first|replace hb:=fE hb|replace hb:=fG hb))|((with_reducible refine aG FX ?_);(refine bC (aez (p:=c.rule) ok aB) ?_ ?_<;>intro hn))|fail)
 all_goals first
  |exact pt ⟨by omega,by omega,by omega,by omega,by omega,by omega,by omega,by assumption⟩
  |exact pf fun k=>by obtain⟨a1,a2,a3,a4,a5,a6,a7,a8⟩:=k;contradiction
theorem adt {h:AH} {c:iQ} {v:AV} {F:List Nat} (ok:Cel.ok c.rule) (hs:Sz.sz c≤67108864) (r:ah h v c.rule.l F):aP Tryz.prog FB [.agg (c.cs v)] h (.bool (bp (nI c))):=by
 refine reader (ad4 _) (by simp only[old]) ?_
 unfold RA
 (repeat' first|refine vs ?_|((with_reducible refine aG dJ ?_);(refine dS j5 ?_ ?_<;>intro hb<;>first|replace hb:=fE hb|replace hb:=fG hb))|((with_reducible refine aG FU ?_);(refine bC (aew (p:=c.rule) ok hs aB) ?_ ?_<;>intro hn))|fail)
 all_goals first
  |exact pt ⟨by omega,by omega,by omega,by omega,by omega,by omega,by omega,by assumption⟩
  |exact pf fun k=>by obtain⟨a1,a2,a3,a4,a5,a6,a7,a8⟩:=k;contradiction
end Go.Proofs.YtcgjihfngdhjjaaGreat
