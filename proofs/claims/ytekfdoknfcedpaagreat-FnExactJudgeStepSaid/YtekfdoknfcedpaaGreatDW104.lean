import Derived.Test.YtekfdoknfcedpaaGreatDW103
set_option linter.unusedSimpArgs false
set_option linter.unusedVariables false
set_option maxHeartbeats 1000000
namespace Go.Proofs.YtekfdoknfcedpaaGreat
open Go Go.Ab
section
def ZC (x0 x1:AV):Prog:=Ln 0 x0 fun a=>.loop [.int .i64 0] (fun b=>Bn .lss (g b 0) a fun a=>.ite a (Ix 6 x0 (g b 0) fun a=>Ld 6 a fun a=>.op (.fE x1 [a]) fun a=>.ite a (.fin [.val (g b 0)]) (Bn .add (g b 0) (.int .i64 1) fun a=>.leaf 0 [a])) (.leaf 2 [g b 0])) fun a b=>aA a 1 (.leaf 1 b) (aA a 2 (.fin [.val (.int .i64 (-1))]) .bad)
theorem ZG (x0 x1:AV):CC Tryz.prog zw [x0,x1] (ZC x0 x1):=cc Tryz.func333 [0,1,7,8] (fun _=>[])
def LM (x0 x1:AV):Prog:=Cl zw [x0,x1] fun a=>Bn .geq a (.int .i64 0) fun a=>.fin [.val a]
theorem Zl (x0 x1:AV):CC Tryz.prog zn [x0,x1] (LM x0 x1):=cc Tryz.func321
def NU (x0 x1:AV):Prog:=Cl zn [x0,x1] fun a=>.fin [.val a]
theorem ad7 (x0 x1:AV):CC Tryz.prog nX [x0,x1] (NU x0 x1):=cc Tryz.func283
def PL (x0 x1 x2:AV):Prog:=.op (.box x0) fun a=>Ld 5 a fun a=>.op (.ld1 x1) fun b=>.op (.ld1 x2) fun c=>Cl mU [a,b,c] fun a=>.fin [.val a]
theorem agt (x0 x1 x2:AV):CC Tryz.prog wK [x0,x1,x2] (PL x0 x1 x2):=cc Tryz.func281
def PK (x0 x1:AV):Prog:=.op (.box x0) fun a=>Ld 6 a fun a=>.op (.fad 1 x1) fun b=>.op (.ld1 b) fun c=>Cl AU [a] fun a=>.chk (.ld1 b) c (Bn .geq a c fun a=>.fin [.val a])
theorem ags (x0 x1:AV):CC Tryz.prog I9 [x0,x1] (PK x0 x1):=cc Tryz.func284 [] (fun r=>if r=1 then[(0,[]),(2,[]),(3,[]),(1,[3]),(4,[]),(5,[])] else[])
def PI (x0 x1:AV):Prog:=.op (.box x0) fun a=>Lg 5 a fun a=>Lg 2 x1 fun b=>Cl nY [a,b] fun a=>.op (.ext a 0) fun b=>.op (.ext a 1) fun a=>.op (.alloc [.str ⟨#[]⟩,.bool false,.int .i64 0,.str ⟨#[]⟩]) fun c=>.op (.st 4 c b) fun _=>Gf a true 1 c fun b=>.gop a true (.una .not b) fun b=>Pk a b (.bool false) fun a=>Gf a true 3 c fun b=>Gf a true 3 x1 fun c=>.gop a true (.bin 1 .eql b c) fun b=>Pk a b (.bool false) fun a=>.fin [.val a]
theorem agr (x0 x1:AV):CC Tryz.prog I8 [x0,x1] (PI x0 x1):=cc Tryz.func286
def PG (x0 x1:AV):Prog:=.op (.box x0) fun a=>Lg 5 a fun a=>Lg 2 x1 fun b=>Cl nY [a,b] fun a=>.op (.ext a 0) fun b=>.op (.ext a 1) fun a=>.op (.alloc [.str ⟨#[]⟩,.bool false,.int .i64 0,.str ⟨#[]⟩]) fun c=>.op (.st 4 c b) fun _=>Gf a true 1 c fun b=>Pk a b (.bool false) fun a=>Gf a true 2 c fun b=>Gf a true 1 x1 fun c=>.gop a true (.bin 0 .geq b c) fun b=>Pk a b (.bool false) fun a=>.fin [.val a]
theorem agq (x0 x1:AV):CC Tryz.prog I7 [x0,x1] (PG x0 x1):=cc Tryz.func288
def PE (x0 x1:AV):Prog:=.op (.box x0) fun a=>.op (.ld1 x1) fun b=>Ld 5 a fun a=>.op (.fE b [a]) fun a=>.op (.una .not a) fun a=>.fin [.val a]
theorem agp (x0 x1:AV):CC Tryz.prog I6 [x0,x1] (PE x0 x1):=cc Tryz.func290
def Rz (x0 x1 x2:AV):Prog:=.op (.box x0) fun a=>.op (.box x1) fun b=>.op (.box x2) fun c=>.op (.jC wK [b,c]) fun d=>.op (.alloc [AV.un]) fun e=>.op (.st 1 e d) fun _=>Lg 0 a fun d=>Bn .eql d (.int .i64 1) fun f=>.ite f (.fin [.val (.bool true)]) (Bn .eql d (.int .i64 2) fun f=>.ite f (.op (.ld1 b) fun a=>Cl Cy [a] fun a=>Bn .gtr a (.int .i64 0) fun a=>.fin [.val a]) (Bn .eql d (.int .i64 3) fun f=>.ite f (.op (.ld1 b) fun b=>.op (.jC I9 [a]) fun a=>Cl nX [b,a] fun a=>.fin [.val a]) (Bn .eql d (.int .i64 4) fun f=>.ite f (.op (.ld1 b) fun b=>.op (.jC I8 [a]) fun a=>Cl nX [b,a] fun a=>.fin [.val a]) (Bn .eql d (.int .i64 5) fun f=>.ite f (.op (.ld1 b) fun b=>.op (.jC I7 [a]) fun a=>Cl nX [b,a] fun a=>.fin [.val a]) (Bn .eql d (.int .i64 6) fun f=>.ite f (.op (.ld1 c) fun a=>.op (.ld1 b) fun b=>Ln 0 b fun b=>Bn .geq a b fun a=>.fin [.val a]) (Bn .eql d (.int .i64 7) fun b=>.ite b (Lg 4 a fun a=>.op (.jC I6 [e]) fun b=>Cl nV [a,b] fun a=>.op (.una .not a) fun a=>.fin [.val a]) (Bn .eql d (.int .i64 8) fun b=>.ite b (Lg 4 a fun a=>.op (.ld1 e) fun b=>Cl nV [a,b] fun a=>.fin [.val a]) (Bn .eql d (.int .i64 9) fun b=>.ite b (Lg 4 a fun b=>Ln 0 b fun b=>Bn .eql b (.int .i64 0) fun b=>.gop b false (.ld1 e) fun c=>Gf b false 4 a fun a=>.gop b false (.idx 5 a (.int .i64 0)) fun a=>.gop b false (.ldn 5 a) fun a=>.gop b false (.fE c [a]) fun a=>.gop b false (.una .not a) fun a=>Pk b (.bool true) a fun a=>.fin [.val a]) (.fin [.val (.bool false)])))))))))
theorem aiK (x0 x1 x2:AV):CC Tryz.prog mU [x0,x1,x2] (Rz x0 x1 x2):=cc Tryz.func218 [] (fun r=>if r=20 then[(0,[]),(1,[]),(2,[]),(3,[]),(4,[]),(5,[]),(6,[]),(7,[]),(8,[]),(9,[]),(10,[]),(11,[]),(12,[]),(13,[])] else[])
def RD (x0 x1 x2:AV):Prog:=.op (.box x0) fun a=>Ld 5 a fun b=>Cl mU [b,x1,x2] fun b=>.op (.una .not b) fun b=>.ite b (.fin [.val (.bool false),.val (.int .i64 0)]) (Ld 5 a fun a=>Cl og [a] fun a=>.op (.una .not a) fun a=>.ite a (.fin [.val (.bool true),.val (.int .i64 0)]) (Ln 0 x1 fun a=>Cl gQ [x2] fun b=>.op (.mnx true [a,b]) fun a=>.fin [.val (.bool true),.val a]))
theorem aiN (x0 x1 x2:AV):CC Tryz.prog wW [x0,x1,x2] (RD x0 x1 x2):=cc Tryz.func130
def Ru (x0 x1 x2:AV):Prog:=.op (.box x0) fun a=>Ld 5 a fun b=>Cl jG [b,x1,x2] fun b=>.op (.una .not b) fun b=>.ite b (.fin [.val (.bool false),.val (.int .i64 0)]) (Ld 5 a fun a=>Cl nZ [a] fun a=>.op (.una .not a) fun a=>.ite a (.fin [.val (.bool true),.val (.int .i64 0)]) (Ln 0 x1 fun a=>Cl gD [x2] fun b=>Bn .gtr a b fun b=>.scope (.ite b (Cl gD [x2] fun a=>.leaf 0 [a]) (.leaf 0 [a])) (fun a=>.fin [.val (.bool true),.val (g a 0)]) fun a b=>aA a 1 (.leaf 1 b) .bad))
theorem aiF (x0 x1 x2:AV):CC Tryz.prog wU [x0,x1,x2] (Ru x0 x1 x2):=cc Tryz.func187 [8] (fun _=>[])
end
theorem Zz {h:AH} {xs:List Span} {x0:AV} {F:List Nat} {f:FuncId} {caps:List AV} {p:Span→Bool} (r:au h x0 xs F) (hf:Looks Span Tryz.prog h f caps p):
  aN Tryz.prog zw [x0,.fn f caps] h (.int .i64 (idx p xs)):=
 reader (ZG _ _) (by simp only[old]) (Dk (w:=6) rfl r hf)
theorem Zh {h:AH} {xs:List Span} {x0:AV} {F:List Nat} {f:FuncId} {caps:List AV} {p:Span→Bool} (r:au h x0 xs F) (hf:Looks Span Tryz.prog h f caps p):
  aN Tryz.prog zn [x0,.fn f caps] h (.bool (bp (∃ x∈xs,p x=true))):=by
 refine reader (Zl _ _) (by simp only[old]) ?_
 unfold LM
 (repeat' first|refine vs ?_|(refine br ?_ ?_<;>first|exact bx|intro _)|((with_reducible refine aB zw ?_);refine aQ (Zz ah hf) ?_)|((with_reducible refine aC ?_);((first|refine ix ?_|refine ixi ?_|(refine ixg ?_;intro _ _)|(refine aL ?_;intro _ _));first|rintro _ _ _ _ _ ⟨rfl,rfl⟩ _|rintro _ _ _ _ _ ⟨_,rfl,_⟩ _|rintro _ _ _ _ _ ⟨_,_,_,_,rfl,rfl,_,_⟩ _|intro _ _ _ _ _ _ _))|(refine sx ?_;intro _ _)|((with_reducible refine aJ ?_);simp only[g0,g1,g2]))
 ·exact pt (lZ.1 (by assumption))
 ·exact pf fun k=>absurd (lZ.2 k) (by assumption)
theorem Iq {h:AH} {xs:List Span} {x0:AV} {F:List Nat} {f:FuncId} {caps:List AV} {p:Span→Bool} (r:au h x0 xs F) (hf:Looks Span Tryz.prog h f caps p):
  aN Tryz.prog nX [x0,.fn f caps] h (.bool (bp (∃ x∈xs,p x=true))):=by
 refine reader (ad7 _ _) (by simp only[old]) ?_
 unfold NU
 (repeat' first|refine vs ?_|(refine br ?_ ?_<;>first|exact bx|intro _)|((with_reducible refine aB zn ?_);refine aQ (Zh ah hf) ?_)|((with_reducible refine aC ?_);((first|refine ix ?_|refine ixi ?_|(refine ixg ?_;intro _ _)|(refine aL ?_;intro _ _));first|rintro _ _ _ _ _ ⟨rfl,rfl⟩ _|rintro _ _ _ _ _ ⟨_,rfl,_⟩ _|rintro _ _ _ _ _ ⟨_,_,_,_,rfl,rfl,_,_⟩ _|intro _ _ _ _ _ _ _))|(refine sx ?_;intro _ _)|((with_reducible refine aJ ?_);simp only[g0,g1,g2]))
 exact pb rfl
def V4 (p:Pol) (s:Span):Bool:=decide (p.n≤lenOf s)
theorem ae4 {h:AH} {b:Nat} {p:Pol} {v:AV} (a:At h b 0 (p.cs v)):Looks Span Tryz.prog h I9 [.ptr b 0] (V4 p):=by
 have a:At h b 0 [.int .i64 p.kind,.int .i64 p.n,.str p.key,.str p.text,v]:=a
 rintro x cs F ⟨w,rfl,r⟩
 refine reader (ags _ _) (by simp only[old]) ?_
 unfold PK
 (repeat' first|refine vs ?_|(refine br ?_ ?_<;>first|exact bx|intro _)|((with_reducible refine aB AU ?_);refine aQ (ads (s:=x)) ?_)|((with_reducible refine aC ?_);((first|refine ix ?_|refine ixi ?_|(refine ixg ?_;intro _ _)|(refine aL ?_;intro _ _));first|rintro _ _ _ _ _ ⟨rfl,rfl⟩ _|rintro _ _ _ _ _ ⟨_,rfl,_⟩ _|rintro _ _ _ _ _ ⟨_,_,_,_,rfl,rfl,_,_⟩ _|intro _ _ _ _ _ _ _))|(refine sx ?_;intro _ _)|((with_reducible refine aJ ?_);simp only[g0,g1,g2]))
 all_goals(refine pb ?_;simp[V4, *])
noncomputable def amj (p:Pol) (s:Span):Bool:=bp (DJ p.key p.text s)
noncomputable def anq (p:Pol) (s:Span):Bool:=bp (Ed p.key p.n s)
theorem ae3 {h:AH} {b:Nat} {p:Pol} {v:AV} (a:At h b 0 (p.cs v)):Looks Span Tryz.prog h I8 [.ptr b 0] (amj p):=by
 have a:At h b 0 [.int .i64 p.kind,.int .i64 p.n,.str p.key,.str p.text,v]:=a
 rintro x cs F ⟨w,rfl,r⟩
 refine reader (agr _ _) (by simp only[old]) ?_
 unfold PI
 rcases hq:kY x.attrs p.key with _|⟨ak,an,ai,at_⟩
 ·(repeat' first|refine vs ?_|(refine br ?_ ?_<;>first|exact bx|intro _)|((with_reducible refine aB nY ?_);(refine aQ (Aq (l:=x.attrs) (key:=p.key) ah) ?_;unfold faV;rw[hq];simp only[Option.isSome,Option.getD]))|((with_reducible refine aC ?_);((first|refine ix ?_|refine ixi ?_|(refine ixg ?_;intro _ _)|(refine aL ?_;intro _ _));first|rintro _ _ _ _ _ ⟨rfl,rfl⟩ _|rintro _ _ _ _ _ ⟨_,rfl,_⟩ _|rintro _ _ _ _ _ ⟨_,_,_,_,rfl,rfl,_,_⟩ _|intro _ _ _ _ _ _ _))|(refine sx ?_;intro _ _)|((with_reducible refine aJ ?_);simp only[g0,g1,g2]))
  refine pf ?_
  rintro⟨a,e,-⟩
  rw[hq] at e;cases e
 ·cases an
  all_goals(repeat' first|refine vs ?_|(refine br ?_ ?_<;>first|exact bx|intro _)|((with_reducible refine aB nY ?_);(refine aQ (Aq (l:=x.attrs) (key:=p.key) ah) ?_;unfold faV;rw[hq];simp only[Option.isSome,Option.getD]))|((with_reducible refine aC ?_);((first|refine ix ?_|refine ixi ?_|(refine ixg ?_;intro _ _)|(refine aL ?_;intro _ _));first|rintro _ _ _ _ _ ⟨rfl,rfl⟩ _|rintro _ _ _ _ _ ⟨_,rfl,_⟩ _|rintro _ _ _ _ _ ⟨_,_,_,_,rfl,rfl,_,_⟩ _|intro _ _ _ _ _ _ _))|(refine sx ?_;intro _ _)|((with_reducible refine aJ ?_);simp only[g0,g1,g2]))
  all_goals first
   |exact pt ⟨_,hq,rfl,by assumption⟩
   |(refine pf ?_;rintro⟨a',e,k2,k3⟩;rw[hq] at e;cases e;first|contradiction|cases k2)
theorem ae2 {h:AH} {b:Nat} {p:Pol} {v:AV} (a:At h b 0 (p.cs v)):Looks Span Tryz.prog h I7 [.ptr b 0] (anq p):=by
 have a:At h b 0 [.int .i64 p.kind,.int .i64 p.n,.str p.key,.str p.text,v]:=a
 rintro x cs F ⟨w,rfl,r⟩
 refine reader (agq _ _) (by simp only[old]) ?_
 unfold PG
 rcases hq:kY x.attrs p.key with _|⟨ak,an,ai,at_⟩
 ·(repeat' first|refine vs ?_|(refine br ?_ ?_<;>first|exact bx|intro _)|((with_reducible refine aB nY ?_);(refine aQ (Aq (l:=x.attrs) (key:=p.key) ah) ?_;unfold faV;rw[hq];simp only[Option.isSome,Option.getD]))|((with_reducible refine aC ?_);((first|refine ix ?_|refine ixi ?_|(refine ixg ?_;intro _ _)|(refine aL ?_;intro _ _));first|rintro _ _ _ _ _ ⟨rfl,rfl⟩ _|rintro _ _ _ _ _ ⟨_,rfl,_⟩ _|rintro _ _ _ _ _ ⟨_,_,_,_,rfl,rfl,_,_⟩ _|intro _ _ _ _ _ _ _))|(refine sx ?_;intro _ _)|((with_reducible refine aJ ?_);simp only[g0,g1,g2]))
  refine pf ?_
  rintro⟨a,e,-⟩
  rw[hq] at e;cases e
 ·cases an
  all_goals(repeat' first|refine vs ?_|(refine br ?_ ?_<;>first|exact bx|intro _)|((with_reducible refine aB nY ?_);(refine aQ (Aq (l:=x.attrs) (key:=p.key) ah) ?_;unfold faV;rw[hq];simp only[Option.isSome,Option.getD]))|((with_reducible refine aC ?_);((first|refine ix ?_|refine ixi ?_|(refine ixg ?_;intro _ _)|(refine aL ?_;intro _ _));first|rintro _ _ _ _ _ ⟨rfl,rfl⟩ _|rintro _ _ _ _ _ ⟨_,rfl,_⟩ _|rintro _ _ _ _ _ ⟨_,_,_,_,rfl,rfl,_,_⟩ _|intro _ _ _ _ _ _ _))|(refine sx ?_;intro _ _)|((with_reducible refine aJ ?_);simp only[g0,g1,g2]))
  all_goals first
   |exact pt ⟨_,hq,rfl,by assumption⟩
   |(refine pf ?_;rintro⟨a',e,k2,k3⟩;rw[hq] at e;cases e;first|contradiction|cases k2)
theorem wS (p:Pol) {l:List Span} {n:Int}:∀ {h:AH} {v vl:AV} {F Fl:List Nat},au h v p.l F→au h vl l Fl→aN Tryz.prog mU [.agg (p.cs v),vl,.int .i64 n] h (.bool (bp (eP l n p))):=by
 refine iB (p:=fun p=>∀ {h:AH} {v vl:AV} {F Fl:List Nat},au h v p.l F→au h vl l Fl→aN Tryz.prog mU [.agg (p.cs v),vl,.int .i64 n] h (.bool (bp (eP l n p)))) ?_ p
 intro p ih h v vl F Fl r rl
 refine reader (aiK _ _ _) (by simp only[old]) ?_
 unfold Rz
 have hsm:=r.small
 have hsl:=rl.small
 refine vs ?_
 refine kV (au.cell rl) ?_
 have h1:∀ {H:AH} {b2 b3:Nat},At H b2 0 [vl]→At H b3 0 [.int .i64 n]→au H vl l Fl→∀ x∈p.l,∀ {w:AV} {G:List Nat},au H w x.l G→aN Tryz.prog wK [.agg (x.cs w),.ptr b2 0,.ptr b3 0] H (.bool (bp (eP l n x))):=by
  intro H b2 b3 a2 a3 rl x hm w G q
  refine reader (agt _ _ _) (by simp only[old]) ?_
  unfold PL
  have wS:=@ih x hm
  (repeat' first|refine vs ?_|(refine br ?_ ?_<;>first|exact bx|intro _)|((with_reducible refine aB mU ?_);refine aQ (wS ah ah) ?_)|((with_reducible refine aC ?_);((first|refine ix ?_|refine ixi ?_|(refine ixg ?_;intro _ _)|(refine aL ?_;intro _ _));first|rintro _ _ _ _ _ ⟨rfl,rfl⟩ _|rintro _ _ _ _ _ ⟨_,rfl,_⟩ _|rintro _ _ _ _ _ ⟨_,_,_,_,rfl,rfl,_,_⟩ _|intro _ _ _ _ _ _ _))|(refine sx ?_;intro _ _)|((with_reducible refine aJ ?_);simp only[g0,g1,g2]))
  exact pb rfl
 have h8:∀ {H:AH} {b2 b3:Nat},At H b2 0 [vl]→At H b3 0 [.int .i64 n]→au H vl l Fl→nI Pol Tryz.prog H wK [.ptr b2 0,.ptr b3 0] p.l (fun x=>bp (eP l n x)):=by
  intro H b2 b3 a2 a3 rl x cs F hm q
  rw[Pol.bX] at q
  obtain⟨w,rfl,q⟩:=q
  exact h1 a2 a3 rl x hm q
 have h7:∀ {H:AH} {b2 b3 b5:Nat},At H b5 0 [.fn wK [.ptr b2 0,.ptr b3 0]]→At H b2 0 [vl]→At H b3 0 [.int .i64 n]→au H vl l Fl→nI Pol Tryz.prog H I6 [.ptr b5 0] p.l (fun x=>!bp (eP l n x)):=by
  intro H b2 b3 b5 a5 a2 a3 rl x cs F hm q
  rw[Pol.bX] at q
  obtain⟨w,rfl,q⟩:=q
  refine reader (agp _ _) (by simp only[old]) ?_
  unfold PE
  (repeat' first|refine vs ?_|(refine br ?_ ?_<;>first|exact bx|intro _)|((with_reducible refine Kl ?_);(refine oJ (h1 fB fB ah x hm ah) ?_))|((with_reducible refine aC ?_);((first|refine ix ?_|refine ixi ?_|(refine ixg ?_;intro _ _)|(refine aL ?_;intro _ _));first|rintro _ _ _ _ _ ⟨rfl,rfl⟩ _|rintro _ _ _ _ _ ⟨_,rfl,_⟩ _|rintro _ _ _ _ _ ⟨_,_,_,_,rfl,rfl,_,_⟩ _|intro _ _ _ _ _ _ _))|(refine sx ?_;intro _ _)|((with_reducible refine aJ ?_);simp only[g0,g1,g2]))
  exact pb rfl
 by_cases h9:p.kind=9
 ·(repeat' first|refine vs ?_|(refine br ?_ ?_<;>first|exact bx|intro _)|((with_reducible refine aJ ?_);simp only[g0,g1,g2]))
  ·have he:p.l=[]:=List.length_eq_zero_iff.1 (by omega)
   exact pt (eG.2 ⟨by omega,by omega,by omega,by omega,by omega,by omega,by omega,fun _ y hy=>(by rw[he] at hy;cases hy),by omega,by omega⟩)
  ·obtain⟨x,hx,-,-⟩:=aR (show 0 < p.l.length by omega)
   have hm:=List.mem_of_getElem? hx
   refine qV r (by omega) hx rfl ?_
   intro bb o cs Fi aa q _
   rw[Pol.bX] at q
   obtain⟨w,rfl,q⟩:=q
   by_cases hn:eP l n x
   ·(repeat' first|refine vs ?_|(refine br ?_ ?_<;>first|exact bx|intro _)|((with_reducible refine Kl ?_);(refine oJ (h1 fB fB ah x hm ah) ?_;rw[eD hn]))|((with_reducible refine aC ?_);((first|refine ix ?_|refine ixi ?_|(refine ixg ?_;intro _ _)|(refine aL ?_;intro _ _));first|rintro _ _ _ _ _ ⟨rfl,rfl⟩ _|rintro _ _ _ _ _ ⟨_,rfl,_⟩ _|rintro _ _ _ _ _ ⟨_,_,_,_,rfl,rfl,_,_⟩ _|intro _ _ _ _ _ _ _))|(refine sx ?_;intro _ _)|((with_reducible refine aJ ?_);simp only[g0,g1,g2]))
    exact pf fun k=>(eG.1 k).2.2.2.2.2.2.2.1 h9 x hx hn
   ·(repeat' first|refine vs ?_|(refine br ?_ ?_<;>first|exact bx|intro _)|((with_reducible refine Kl ?_);(refine oJ (h1 fB fB ah x hm ah) ?_;rw[fU hn]))|((with_reducible refine aC ?_);((first|refine ix ?_|refine ixi ?_|(refine ixg ?_;intro _ _)|(refine aL ?_;intro _ _));first|rintro _ _ _ _ _ ⟨rfl,rfl⟩ _|rintro _ _ _ _ _ ⟨_,rfl,_⟩ _|rintro _ _ _ _ _ ⟨_,_,_,_,rfl,rfl,_,_⟩ _|intro _ _ _ _ _ _ _))|(refine sx ?_;intro _ _)|((with_reducible refine aJ ?_);simp only[g0,g1,g2]))
    exact pt (eG.2 ⟨by omega,by omega,by omega,by omega,by omega,by omega,by omega,fun _ y hy=>by rw[hx] at hy;cases hy;exact hn,by omega,by omega⟩)
 by_cases k7:p.kind=7
 ·(repeat' first|refine vs ?_|(refine br ?_ ?_<;>first|exact bx|intro _)|((with_reducible refine aB nV ?_);(refine aX (GK ah (h7 fB fB fB ah)) ?_ ?_<;>intro hn))|((with_reducible refine aC ?_);((first|refine ix ?_|refine ixi ?_|(refine ixg ?_;intro _ _)|(refine aL ?_;intro _ _));first|rintro _ _ _ _ _ ⟨rfl,rfl⟩ _|rintro _ _ _ _ _ ⟨_,rfl,_⟩ _|rintro _ _ _ _ _ ⟨_,_,_,_,rfl,rfl,_,_⟩ _|intro _ _ _ _ _ _ _))|(refine sx ?_;intro _ _)|((with_reducible refine aJ ?_);simp only[g0,g1,g2]))
  ·obtain⟨y,hy,q⟩:=hn
   exact pf fun k=>by rw[eD ((eG.1 k).2.2.2.2.2.1 k7 y hy)] at q;cases q
  ·refine pt (eG.2 ⟨by omega,by omega,by omega,by omega,by omega,fun _ y hy=>?_,by omega,by omega,by omega,by omega⟩)
   refine Classical.byContradiction fun c=>hn ⟨y,hy,by rw[fU c];rfl⟩
 by_cases k8:p.kind=8
 ·(repeat' first|refine vs ?_|(refine br ?_ ?_<;>first|exact bx|intro _)|((with_reducible refine aB nV ?_);(refine aX (GK ah (h8 fB fB ah)) ?_ ?_<;>intro hn))|((with_reducible refine aC ?_);((first|refine ix ?_|refine ixi ?_|(refine ixg ?_;intro _ _)|(refine aL ?_;intro _ _));first|rintro _ _ _ _ _ ⟨rfl,rfl⟩ _|rintro _ _ _ _ _ ⟨_,rfl,_⟩ _|rintro _ _ _ _ _ ⟨_,_,_,_,rfl,rfl,_,_⟩ _|intro _ _ _ _ _ _ _))|(refine sx ?_;intro _ _)|((with_reducible refine aJ ?_);simp only[g0,g1,g2]))
  ·obtain⟨y,hy,q⟩:=hn
   exact pt (eG.2 ⟨by omega,by omega,by omega,by omega,by omega,by omega,fun _=>⟨y,hy,oW q⟩,by omega,by omega,by omega⟩)
  ·refine pf fun k=>?_
   obtain⟨y,hy,q⟩:=(eG.1 k).2.2.2.2.2.2.1 k8
   exact hn ⟨y,hy,eD q⟩
 by_cases k3:p.kind=3
 ·(repeat' first|refine vs ?_|(refine br ?_ ?_<;>first|exact bx|intro _)|((with_reducible refine aB nX ?_);(refine aX (Iq ah (ae4 (p:=p) fB)) ?_ ?_<;>intro hn))|((with_reducible refine aC ?_);((first|refine ix ?_|refine ixi ?_|(refine ixg ?_;intro _ _)|(refine aL ?_;intro _ _));first|rintro _ _ _ _ _ ⟨rfl,rfl⟩ _|rintro _ _ _ _ _ ⟨_,rfl,_⟩ _|rintro _ _ _ _ _ ⟨_,_,_,_,rfl,rfl,_,_⟩ _|intro _ _ _ _ _ _ _))|(refine sx ?_;intro _ _)|((with_reducible refine aJ ?_);simp only[g0,g1,g2]))
  ·obtain⟨s,hs,q⟩:=hn
   exact pt (eG.2 ⟨by omega,fun _=>⟨s,hs,of_decide_eq_true q⟩,by omega,by omega,by omega,by omega,by omega,by omega,by omega,by omega⟩)
  ·refine pf fun k=>?_
   obtain⟨s,hs,q⟩:=(eG.1 k).2.1 k3
   exact hn ⟨s,hs,decide_eq_true q⟩
 by_cases k4:p.kind=4
 ·(repeat' first|refine vs ?_|(refine br ?_ ?_<;>first|exact bx|intro _)|((with_reducible refine aB nX ?_);(refine aX (Iq ah (ae3 (p:=p) fB)) ?_ ?_<;>intro hn))|((with_reducible refine aC ?_);((first|refine ix ?_|refine ixi ?_|(refine ixg ?_;intro _ _)|(refine aL ?_;intro _ _));first|rintro _ _ _ _ _ ⟨rfl,rfl⟩ _|rintro _ _ _ _ _ ⟨_,rfl,_⟩ _|rintro _ _ _ _ _ ⟨_,_,_,_,rfl,rfl,_,_⟩ _|intro _ _ _ _ _ _ _))|(refine sx ?_;intro _ _)|((with_reducible refine aJ ?_);simp only[g0,g1,g2]))
  ·obtain⟨s,hs,q⟩:=hn
   exact pt (eG.2 ⟨by omega,by omega,fun _=>⟨s,hs,oW q⟩,by omega,by omega,by omega,by omega,by omega,by omega,by omega⟩)
  ·refine pf fun k=>?_
   obtain⟨s,hs,q⟩:=(eG.1 k).2.2.1 k4
   exact hn ⟨s,hs,eD q⟩
 by_cases k5:p.kind=5
 ·(repeat' first|refine vs ?_|(refine br ?_ ?_<;>first|exact bx|intro _)|((with_reducible refine aB nX ?_);(refine aX (Iq ah (ae2 (p:=p) fB)) ?_ ?_<;>intro hn))|((with_reducible refine aC ?_);((first|refine ix ?_|refine ixi ?_|(refine ixg ?_;intro _ _)|(refine aL ?_;intro _ _));first|rintro _ _ _ _ _ ⟨rfl,rfl⟩ _|rintro _ _ _ _ _ ⟨_,rfl,_⟩ _|rintro _ _ _ _ _ ⟨_,_,_,_,rfl,rfl,_,_⟩ _|intro _ _ _ _ _ _ _))|(refine sx ?_;intro _ _)|((with_reducible refine aJ ?_);simp only[g0,g1,g2]))
  ·obtain⟨s,hs,q⟩:=hn
   exact pt (eG.2 ⟨by omega,by omega,by omega,fun _=>⟨s,hs,oW q⟩,by omega,by omega,by omega,by omega,by omega,by omega⟩)
  ·refine pf fun k=>?_
   obtain⟨s,hs,q⟩:=(eG.1 k).2.2.2.1 k5
   exact hn ⟨s,hs,eD q⟩
 (repeat' first|refine vs ?_|(refine br ?_ ?_<;>first|exact bx|intro _)|((with_reducible refine aB Cy ?_);refine aQ (ahc ah) ?_)|((with_reducible refine aC ?_);((first|refine ix ?_|refine ixi ?_|(refine ixg ?_;intro _ _)|(refine aL ?_;intro _ _));first|rintro _ _ _ _ _ ⟨rfl,rfl⟩ _|rintro _ _ _ _ _ ⟨_,rfl,_⟩ _|rintro _ _ _ _ _ ⟨_,_,_,_,rfl,rfl,_,_⟩ _|intro _ _ _ _ _ _ _))|(refine sx ?_;intro _ _)|((with_reducible refine aJ ?_);simp only[g0,g1,g2]))
 all_goals first
  |(refine pt (eG.2 ⟨?_,by omega,by omega,by omega,?_,by omega,by omega,by omega,by omega,by omega⟩)<;>(intro q;omega))
  |(refine pf fun k=>?_;obtain⟨a2,a3,a4,a5,a6,-,-,-,a10,a11⟩:=eG.1 k;first|(clear a2 a3 a4 a5 a6;omega)|(have g:=a2 (by assumption);omega)|(have g:=a6 (by assumption);omega))
theorem air {h:AH} {p:Pol} {l:List Span} {n:Int} {v vl:AV} {F Fl:List Nat} (r:au h v p.l F) (rl:au h vl l Fl):aN Tryz.prog wU [.agg (p.cs v),vl,.int .i64 n] h (.tup [.bool (lY p l n),.int .i64 (nC p l n)]):=by
 refine reader (aiF _ _ _) (by simp only[old,olds,and_self]) ?_
 unfold Ru
 have hsl:=rl.small
 unfold nC lY
 by_cases hw:eP l n p
 ·rw[eD hw,if_pos rfl]
  by_cases hr:jE p
  ·rw[eD hr,if_pos rfl,Int.min_def]
   (repeat' first|refine vs ?_|(refine br ?_ ?_<;>first|exact bx|intro _)|((with_reducible refine aB jG ?_);(refine aX (mQ p ah ah) ?_ ?_<;>intro hn))|((with_reducible refine aB nZ ?_);(refine aX (AZ p ah) ?_ ?_<;>intro hn))|((with_reducible refine aB gD ?_);refine aQ xg ?_)|((with_reducible refine aC ?_);((first|refine ix ?_|refine ixi ?_|(refine ixg ?_;intro _ _)|(refine aL ?_;intro _ _));first|rintro _ _ _ _ _ ⟨rfl,rfl⟩ _|rintro _ _ _ _ _ ⟨_,rfl,_⟩ _|rintro _ _ _ _ _ ⟨_,_,_,_,rfl,rfl,_,_⟩ _|intro _ _ _ _ _ _ _))|(refine sx ?_;intro _ _)|((with_reducible refine aJ ?_);simp only[g0,g1,g2]))
   all_goals first
    |contradiction
    |exact pv (by rw[if_pos (by omega)];rfl)
    |exact pv (by rw[if_neg (by omega)];rfl)
  ·rw[fU hr,if_neg (by decide)]
   (repeat' first|refine vs ?_|(refine br ?_ ?_<;>first|exact bx|intro _)|((with_reducible refine aB jG ?_);(refine aX (mQ p ah ah) ?_ ?_<;>intro hn))|((with_reducible refine aB nZ ?_);(refine aX (AZ p ah) ?_ ?_<;>intro hn))|((with_reducible refine aB gD ?_);refine aQ xg ?_)|((with_reducible refine aC ?_);((first|refine ix ?_|refine ixi ?_|(refine ixg ?_;intro _ _)|(refine aL ?_;intro _ _));first|rintro _ _ _ _ _ ⟨rfl,rfl⟩ _|rintro _ _ _ _ _ ⟨_,rfl,_⟩ _|rintro _ _ _ _ _ ⟨_,_,_,_,rfl,rfl,_,_⟩ _|intro _ _ _ _ _ _ _))|(refine sx ?_;intro _ _)|((with_reducible refine aJ ?_);simp only[g0,g1,g2]))
   all_goals first
    |contradiction
    |exact pv rfl
 ·rw[fU hw,if_neg (by decide)]
  (repeat' first|refine vs ?_|(refine br ?_ ?_<;>first|exact bx|intro _)|((with_reducible refine aB jG ?_);(refine aX (mQ p ah ah) ?_ ?_<;>intro hn))|((with_reducible refine aC ?_);((first|refine ix ?_|refine ixi ?_|(refine ixg ?_;intro _ _)|(refine aL ?_;intro _ _));first|rintro _ _ _ _ _ ⟨rfl,rfl⟩ _|rintro _ _ _ _ _ ⟨_,rfl,_⟩ _|rintro _ _ _ _ _ ⟨_,_,_,_,rfl,rfl,_,_⟩ _|intro _ _ _ _ _ _ _))|(refine sx ?_;intro _ _)|((with_reducible refine aJ ?_);simp only[g0,g1,g2]))
  all_goals first
   |contradiction
   |exact pv rfl
theorem aiw {h:AH} {p:Pol} {l:List Span} {n:Int} {v vl:AV} {F Fl:List Nat} (r:au h v p.l F) (rl:au h vl l Fl):aN Tryz.prog wW [.agg (p.cs v),vl,.int .i64 n] h (.tup [.bool (lY p l n),.int .i64 (nC p l n)]):=by
 refine reader (aiN _ _ _) (by simp only[old,olds,and_self]) ?_
 unfold RD
 have hsl:=rl.small
 unfold nC lY
 by_cases hw:eP l n p
 ·rw[eD hw,if_pos rfl]
  by_cases hr:jE p
  ·rw[eD hr,if_pos rfl]
   (repeat' first|refine vs ?_|(refine br ?_ ?_<;>first|exact bx|intro _)|((with_reducible refine aB mU ?_);(refine aX (wS p ah ah) ?_ ?_<;>intro hn))|((with_reducible refine aB og ?_);(refine aX (Oy p ah) ?_ ?_<;>intro hn))|((with_reducible refine aB gQ ?_);refine aQ xk ?_)|((with_reducible refine aC ?_);((first|refine ix ?_|refine ixi ?_|(refine ixg ?_;intro _ _)|(refine aL ?_;intro _ _));first|rintro _ _ _ _ _ ⟨rfl,rfl⟩ _|rintro _ _ _ _ _ ⟨_,rfl,_⟩ _|rintro _ _ _ _ _ ⟨_,_,_,_,rfl,rfl,_,_⟩ _|intro _ _ _ _ _ _ _))|(refine sx ?_;intro _ _)|((with_reducible refine aJ ?_);simp only[g0,g1,g2]))
   all_goals first
    |contradiction
    |exact pv rfl
  ·rw[fU hr,if_neg (by decide)]
   (repeat' first|refine vs ?_|(refine br ?_ ?_<;>first|exact bx|intro _)|((with_reducible refine aB mU ?_);(refine aX (wS p ah ah) ?_ ?_<;>intro hn))|((with_reducible refine aB og ?_);(refine aX (Oy p ah) ?_ ?_<;>intro hn))|((with_reducible refine aB gQ ?_);refine aQ xk ?_)|((with_reducible refine aC ?_);((first|refine ix ?_|refine ixi ?_|(refine ixg ?_;intro _ _)|(refine aL ?_;intro _ _));first|rintro _ _ _ _ _ ⟨rfl,rfl⟩ _|rintro _ _ _ _ _ ⟨_,rfl,_⟩ _|rintro _ _ _ _ _ ⟨_,_,_,_,rfl,rfl,_,_⟩ _|intro _ _ _ _ _ _ _))|(refine sx ?_;intro _ _)|((with_reducible refine aJ ?_);simp only[g0,g1,g2]))
   all_goals first
    |contradiction
    |exact pv rfl
 ·rw[fU hw,if_neg (by decide)]
  (repeat' first|refine vs ?_|(refine br ?_ ?_<;>first|exact bx|intro _)|((with_reducible refine aB mU ?_);(refine aX (wS p ah ah) ?_ ?_<;>intro hn))|((with_reducible refine aC ?_);((first|refine ix ?_|refine ixi ?_|(refine ixg ?_;intro _ _)|(refine aL ?_;intro _ _));first|rintro _ _ _ _ _ ⟨rfl,rfl⟩ _|rintro _ _ _ _ _ ⟨_,rfl,_⟩ _|rintro _ _ _ _ _ ⟨_,_,_,_,rfl,rfl,_,_⟩ _|intro _ _ _ _ _ _ _))|(refine sx ?_;intro _ _)|((with_reducible refine aJ ?_);simp only[g0,g1,g2]))
  all_goals first
   |contradiction
   |exact pv rfl
end Go.Proofs.YtekfdoknfcedpaaGreat
