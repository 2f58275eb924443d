import Derived.Test.YtekfdoknfcedpaaGreatDW102
set_option linter.unusedSimpArgs false
set_option linter.unusedVariables false
set_option maxHeartbeats 1000000
namespace Go.Proofs.YtekfdoknfcedpaaGreat
open Go Go.Ab
section
def OZ (x0:AV):Prog:=.op (.box x0) fun a=>Lg 0 a fun b=>Bn .eql b (.int .i64 6) fun b=>.ite b (.fin [.val (.bool true)]) (.loop [.int .i64 0] (fun b=>Lg 4 a fun c=>Ln 0 c fun c=>Bn .lss (g b 0) c fun c=>.ite c (Lg 4 a fun a=>Ix 5 a (g b 0) fun a=>Ld 5 a fun a=>Cl nZ [a] fun a=>.ite a (.fin [.val (.bool true)]) (Bn .add (g b 0) (.int .i64 1) fun a=>.leaf 0 [a])) (.leaf 2 [g b 0])) fun a b=>aA a 1 (.leaf 1 b) (aA a 2 (.fin [.val (.bool false)]) .bad))
theorem afH (x0:AV):CC Tryz.prog nZ [x0] (OZ x0):=cc Tryz.func261 [1,3] (fun _=>[])
def PV (x0:AV):Prog:=.op (.box x0) fun a=>Lg 0 a fun b=>Bn .eql b (.int .i64 6) fun b=>Gf b false 4 a fun a=>.gop b false (.call nV [a,.fn og []]) fun a=>Pk b (.bool true) a fun a=>.fin [.val a]
theorem agy (x0:AV):CC Tryz.prog og [x0] (PV x0):=cc Tryz.func219
def ZM (x0 x1:AV):Prog:=Ln 0 x0 fun a=>.loop [.int .i64 0] (fun b=>Bn .lss (g b 0) a fun a=>.ite a (Ix 5 x0 (g b 0) fun a=>Ld 5 a fun a=>.op (.fE x1 [a]) fun a=>.ite a (.fin [.val (g b 0)]) (Bn .add (g b 0) (.int .i64 1) fun a=>.leaf 0 [a])) (.leaf 2 [g b 0])) fun a b=>aA a 1 (.leaf 1 b) (aA a 2 (.fin [.val (.int .i64 (-1))]) .bad)
theorem ZO (x0 x1:AV):CC Tryz.prog zB [x0,x1] (ZM x0 x1):=cc Tryz.func322 [0,1,7,8] (fun _=>[])
def LU (x0 x1:AV):Prog:=Cl zB [x0,x1] fun a=>Bn .geq a (.int .i64 0) fun a=>.fin [.val a]
theorem Zt (x0 x1:AV):CC Tryz.prog nV [x0,x1] (LU x0 x1):=cc Tryz.func289
def Rq (x0 x1 x2:AV):Prog:=.op (.box x0) fun a=>Lg 0 a fun b=>Bn .eql b (.int .i64 1) fun c=>.ite c (.fin [.val (.bool true)]) (Bn .eql b (.int .i64 2) fun c=>.ite c (Cl Cm [x1] fun a=>Bn .gtr a (.int .i64 0) fun a=>.fin [.val a]) (Bn .eql b (.int .i64 3) fun c=>.ite c (Ln 0 x1 fun b=>Bn .gtr b (.int .i64 0) fun b=>.gop b true (.mv x1) fun c=>.gop b true (.fad 1 a) fun a=>.gop b true (.ld1 a) fun d=>.gop b true (.call Bo [c]) fun c=>.lG b true (.ld1 a) d (.gop b true (.bin 0 .geq c d) fun a=>Pk b a (.bool false) fun a=>.fin [.val a])) (Bn .eql b (.int .i64 4) fun c=>.scope (.ite c (.leaf 0 [c]) (Bn .eql b (.int .i64 5) fun a=>.leaf 0 [a])) (fun c=>.ite (g c 0) (Ld 5 a fun a=>Cl Ch [a,x1] fun a=>.fin [.val a]) (Bn .eql b (.int .i64 6) fun c=>.ite c (Ln 0 x1 fun a=>Bn .geq x2 a fun a=>.fin [.val a]) (Bn .eql b (.int .i64 7) fun c=>.ite c (.loop [.int .i64 0] (fun b=>Lg 4 a fun c=>Ln 0 c fun c=>Bn .lss (g b 0) c fun c=>.ite c (Lg 4 a fun a=>Ix 5 a (g b 0) fun a=>Ld 5 a fun a=>Cl jG [a,x1,x2] fun a=>.op (.una .not a) fun a=>.ite a (.fin [.val (.bool false)]) (Bn .add (g b 0) (.int .i64 1) fun a=>.leaf 0 [a])) (.leaf 3 [g b 0])) fun a b=>aA a 1 (.leaf 1 b) (aA a 3 (.fin [.val (.bool true)]) .bad)) (Bn .eql b (.int .i64 8) fun c=>.ite c (.loop [.int .i64 0] (fun b=>Lg 4 a fun c=>Ln 0 c fun c=>Bn .lss (g b 0) c fun c=>.ite c (Lg 4 a fun a=>Ix 5 a (g b 0) fun a=>Ld 5 a fun a=>Cl jG [a,x1,x2] fun a=>.ite a (.fin [.val (.bool true)]) (Bn .add (g b 0) (.int .i64 1) fun a=>.leaf 0 [a])) (.leaf 5 [g b 0])) fun a b=>aA a 1 (.leaf 1 b) (aA a 5 (.fin [.val (.bool false)]) .bad)) (Bn .eql b (.int .i64 9) fun b=>.ite b (Lg 4 a fun b=>Ln 0 b fun b=>Bn .eql b (.int .i64 0) fun b=>Gf b false 4 a fun a=>.gop b false (.idx 5 a (.int .i64 0)) fun a=>.gop b false (.ldn 5 a) fun a=>.gop b false (.mv x1) fun c=>.gop b false (.mv x2) fun d=>.gop b false (.call jG [a,c,d]) fun a=>.gop b false (.una .not a) fun a=>Pk b (.bool true) a fun a=>.fin [.val a]) (.fin [.val (.bool false)])))))) fun a b=>aA a 1 (.leaf 1 b) .bad)))
theorem aiC (x0 x1 x2:AV):CC Tryz.prog jG [x0,x1,x2] (Rq x0 x1 x2):=cc Tryz.func260 [1,2,3,7,8,10,30] (fun r=>if r=7 then[(0,[]),(1,[]),(2,[]),(3,[]),(4,[]),(6,[]),(7,[]),(5,[7]),(8,[]),(9,[]),(10,[])] else[])
end
theorem Ta:∀ {l:List Pol},yN l↔∃ y∈l,jE y
 |[]=>by simp[yN]
 |p::ps=>by simp only[yN,List.mem_cons,exists_eq_or_imp,Ta (l:=ps)]
theorem uT {p:Pol}:jE p↔p.kind=6∨∃ y∈p.l,jE y:=by
 cases p with
 |mk k n s t l=>rw[←Ta];simp only[jE,Pol.kind,Pol.l]
theorem R4 {l:List Span} {n:Int}:∀ {ps:List Pol},yC l n ps↔∀ y∈ps,eP l n y
 |[]=>by simp[yC]
 |p::ps=>by simp only[yC,List.mem_cons,forall_eq_or_imp,R4 (ps:=ps)]
theorem R3 {l:List Span} {n:Int}:∀ {ps:List Pol},yB l n ps↔∃ y∈ps,eP l n y
 |[]=>by simp[yB]
 |p::ps=>by simp only[yB,List.mem_cons,exists_eq_or_imp,R3 (ps:=ps)]
theorem ai1 {l:List Span} {n:Int}:∀ {ps:List Pol},Ez l n ps↔∀ y,ps[0]? =some y→¬ eP l n y
 |[]=>by simp[Ez]
 |p::ps=>by simp[Ez]
theorem eG {l:List Span} {n:Int} {p:Pol}:eP l n p↔(p.kind=2→0 < errs l)∧(p.kind=3→∃ s∈l,p.n≤lenOf s)∧(p.kind=4→∃ s∈l,DJ p.key p.text s)∧(p.kind=5→∃ s∈l,Ed p.key p.n s)∧(p.kind=6→(l.length:Int)≤n)∧(p.kind=7→∀ y∈p.l,eP l n y)∧(p.kind=8→∃ y∈p.l,eP l n y)∧(p.kind=9→∀ y,p.l[0]? =some y→¬ eP l n y)∧1≤p.kind∧p.kind≤9:=by
 cases p with
 |mk k pn s t ps=>
  rw[←R4,←R3,←ai1]
  simp only[eP,Pol.kind,Pol.n,Pol.key,Pol.text,Pol.l,implies_true,true_and]
theorem AZ (p:Pol):∀ {h:AH} {v:AV} {F:List Nat},au h v p.l F→aN Tryz.prog nZ [.agg (p.cs v)] h (.bool (bp (jE p))):=by
 refine iB (p:=fun p=>∀ {h:AH} {v:AV} {F:List Nat},au h v p.l F→aN Tryz.prog nZ [.agg (p.cs v)] h (.bool (bp (jE p)))) ?_ p
 intro p ih h v F r
 refine reader (afH _) (by simp only[old]) ?_
 unfold OZ
 have hsm:=r.small
 (repeat' first|refine vs ?_|(refine br ?_ ?_<;>first|exact bx|intro _)|((with_reducible refine aJ ?_);simp only[g0,g1,g2]))
 ·exact pt (uT.2 (.inl (by assumption)))
 refine aY p.l.length (fun i vs h1=>vs=[.int .i64 (i:Int)]∧i≤p.l.length∧Ext (h.push ⟨p.cs v,0,0⟩) h1∧bW p.l (fun _ x=>¬ jE x) i) ⟨rfl,Nat.zero_le _,aG,up0⟩ ?_
 rintro i vs h1 _ ⟨rfl,hi,e1,hu⟩
 have B1:Bk h1 h.n (p.cs v) 0:=fK e1 iE
 simp only[g0]
 refine vs ?_
 refine br (fun hlt=>?_) (fun hge=>?_)
 ·obtain⟨x,hx,-,-⟩:=aR (show i < p.l.length by omega)
  have hm:=List.mem_of_getElem? hx
  refine vs ?_
  refine bS r hx rfl ?_
  intro bb o cs Fi aa q _
  rw[Pol.bX] at q
  obtain⟨w,rfl,q⟩:=q
  have AZ:=@ih x hm
  (repeat' first|refine vs ?_|(refine br ?_ ?_<;>first|exact bx|intro _)|((with_reducible refine aB nZ ?_);(refine aX (AZ ah) ?_ ?_<;>intro hn))|((with_reducible refine aC ?_);((first|refine ix ?_|refine ixi ?_|(refine ixg ?_;intro _ _)|(refine aL ?_;intro _ _));first|rintro _ _ _ _ _ ⟨rfl,rfl⟩ _|rintro _ _ _ _ _ ⟨_,rfl,_⟩ _|rintro _ _ _ _ _ ⟨_,_,_,_,rfl,rfl,_,_⟩ _|intro _ _ _ _ _ _ _))|(refine sx ?_;intro _ _)|((with_reducible refine aJ ?_);simp only[g0,g1,g2]))
  ·exact pt (uT.2 (.inr ⟨x,hm,hn⟩))
  ·exact⟨by omega,rfl,by omega,aG,upS hu hx hn⟩
 ·(repeat' first|refine vs ?_|(refine br ?_ ?_<;>first|exact bx|intro _)|((with_reducible refine aC ?_);((first|refine ix ?_|refine ixi ?_|(refine ixg ?_;intro _ _)|(refine aL ?_;intro _ _));first|rintro _ _ _ _ _ ⟨rfl,rfl⟩ _|rintro _ _ _ _ _ ⟨_,rfl,_⟩ _|rintro _ _ _ _ _ ⟨_,_,_,_,rfl,rfl,_,_⟩ _|intro _ _ _ _ _ _ _))|(refine sx ?_;intro _ _)|((with_reducible refine aJ ?_);simp only[g0,g1,g2]))
  rw[show i=p.l.length by omega] at hu
  refine pf fun k=>?_
  rcases uT.1 k with k|⟨y,hy,k⟩
  ·contradiction
  ·exact dX hu y hy k
theorem ZL {h:AH} {xs:List Pol} {x0:AV} {F:List Nat} {f:FuncId} {caps:List AV} {p:Pol→Bool} (r:au h x0 xs F) (hf:nI Pol Tryz.prog h f caps xs p):
  aN Tryz.prog zB [x0,.fn f caps] h (.int .i64 (idx p xs)):=
 reader (ZO _ _) (by simp only[old]) (S9 (w:=5) rfl r hf)
theorem GK {h:AH} {xs:List Pol} {x0:AV} {F:List Nat} {f:FuncId} {caps:List AV} {p:Pol→Bool} (r:au h x0 xs F) (hf:nI Pol Tryz.prog h f caps xs p):
  aN Tryz.prog nV [x0,.fn f caps] h (.bool (bp (∃ x∈xs,p x=true))):=by
 refine reader (Zt _ _) (by simp only[old]) ?_
 unfold LU
 (repeat' first|refine vs ?_|(refine br ?_ ?_<;>first|exact bx|intro _)|((with_reducible refine aB zB ?_);refine aQ (ZL ah hf) ?_)|((with_reducible refine aC ?_);((first|refine ix ?_|refine ixi ?_|(refine ixg ?_;intro _ _)|(refine aL ?_;intro _ _));first|rintro _ _ _ _ _ ⟨rfl,rfl⟩ _|rintro _ _ _ _ _ ⟨_,rfl,_⟩ _|rintro _ _ _ _ _ ⟨_,_,_,_,rfl,rfl,_,_⟩ _|intro _ _ _ _ _ _ _))|(refine sx ?_;intro _ _)|((with_reducible refine aJ ?_);simp only[g0,g1,g2]))
 ·exact pt (lZ.1 (by assumption))
 ·exact pf fun k=>absurd (lZ.2 k) (by assumption)
theorem Oy (p:Pol):∀ {h:AH} {v:AV} {F:List Nat},au h v p.l F→aN Tryz.prog og [.agg (p.cs v)] h (.bool (bp (jE p))):=by
 refine iB (p:=fun p=>∀ {h:AH} {v:AV} {F:List Nat},au h v p.l F→aN Tryz.prog og [.agg (p.cs v)] h (.bool (bp (jE p)))) ?_ p
 intro p ih h v F r
 refine reader (agy _) (by simp only[old]) ?_
 unfold PV
 have hl:∀ {H:AH},nI Pol Tryz.prog H og [] p.l (fun x=>bp (jE x)):=by
  intro H x cs F hm q
  rw[Pol.bX] at q
  obtain⟨w,rfl,q⟩:=q
  exact ih x hm q
 (repeat' first|refine vs ?_|(refine br ?_ ?_<;>first|exact bx|intro _)|((with_reducible refine aB nV ?_);(refine aX (GK ah hl) ?_ ?_<;>intro hn))|((with_reducible refine aC ?_);((first|refine ix ?_|refine ixi ?_|(refine ixg ?_;intro _ _)|(refine aL ?_;intro _ _));first|rintro _ _ _ _ _ ⟨rfl,rfl⟩ _|rintro _ _ _ _ _ ⟨_,rfl,_⟩ _|rintro _ _ _ _ _ ⟨_,_,_,_,rfl,rfl,_,_⟩ _|intro _ _ _ _ _ _ _))|(refine sx ?_;intro _ _)|((with_reducible refine aJ ?_);simp only[g0,g1,g2]))
 ·exact pt (uT.2 (.inl (by assumption)))
 ·obtain⟨y,hy,q⟩:=hn
  exact pt (uT.2 (.inr ⟨y,hy,oW q⟩))
 ·refine pf fun k=>?_
  rcases uT.1 k with k|⟨y,hy,k⟩
  ·contradiction
  ·exact hn ⟨y,hy,eD k⟩
theorem mQ (p:Pol) {l:List Span} {n:Int}:∀ {h:AH} {v vl:AV} {F Fl:List Nat},au h v p.l F→au h vl l Fl→aN Tryz.prog jG [.agg (p.cs v),vl,.int .i64 n] h (.bool (bp (eP l n p))):=by
 refine iB (p:=fun p=>∀ {h:AH} {v vl:AV} {F Fl:List Nat},au h v p.l F→au h vl l Fl→aN Tryz.prog jG [.agg (p.cs v),vl,.int .i64 n] h (.bool (bp (eP l n p)))) ?_ p
 intro p ih h v vl F Fl r rl
 refine reader (aiC _ _ _) (by simp only[old]) ?_
 unfold Rq
 have hsm:=r.small
 have hsl:=rl.small
 by_cases h7:p.kind=7
 ·(repeat' first|refine vs ?_|(refine br ?_ ?_<;>first|exact bx|intro _)|((with_reducible refine aJ ?_);simp only[g0,g1,g2]))
  refine aY p.l.length (fun i vs h1=>vs=[.int .i64 (i:Int)]∧i≤p.l.length∧Ext (h.push ⟨p.cs v,0,0⟩) h1∧bW p.l (fun _ x=>eP l n x) i) ⟨rfl,Nat.zero_le _,aG,up0⟩ ?_
  rintro i vs h1 _ ⟨rfl,hi,e1,hu⟩
  have B1:Bk h1 h.n (p.cs v) 0:=fK e1 iE
  simp only[g0]
  refine vs ?_
  refine br (fun hlt=>?_) (fun hge=>?_)
  ·obtain⟨x,hx,-,-⟩:=aR (show i < p.l.length by omega)
   have hm:=List.mem_of_getElem? hx
   refine vs ?_
   refine bS r hx rfl ?_
   intro bb o cs Fi aa q _
   rw[Pol.bX] at q
   obtain⟨w,rfl,q⟩:=q
   have mQ:=@ih x hm
   (repeat' first|refine vs ?_|(refine br ?_ ?_<;>first|exact bx|intro _)|((with_reducible refine aB jG ?_);(refine aX (mQ ah ah) ?_ ?_<;>intro hn))|((with_reducible refine aC ?_);((first|refine ix ?_|refine ixi ?_|(refine ixg ?_;intro _ _)|(refine aL ?_;intro _ _));first|rintro _ _ _ _ _ ⟨rfl,rfl⟩ _|rintro _ _ _ _ _ ⟨_,rfl,_⟩ _|rintro _ _ _ _ _ ⟨_,_,_,_,rfl,rfl,_,_⟩ _|intro _ _ _ _ _ _ _))|(refine sx ?_;intro _ _)|((with_reducible refine aJ ?_);simp only[g0,g1,g2]))
   ·exact⟨by omega,rfl,by omega,aG,upS hu hx hn⟩
   ·exact pf fun k=>hn ((eG.1 k).2.2.2.2.2.1 h7 x hm)
  ·(repeat' first|refine vs ?_|(refine br ?_ ?_<;>first|exact bx|intro _)|((with_reducible refine aC ?_);((first|refine ix ?_|refine ixi ?_|(refine ixg ?_;intro _ _)|(refine aL ?_;intro _ _));first|rintro _ _ _ _ _ ⟨rfl,rfl⟩ _|rintro _ _ _ _ _ ⟨_,rfl,_⟩ _|rintro _ _ _ _ _ ⟨_,_,_,_,rfl,rfl,_,_⟩ _|intro _ _ _ _ _ _ _))|(refine sx ?_;intro _ _)|((with_reducible refine aJ ?_);simp only[g0,g1,g2]))
   rw[show i=p.l.length by omega] at hu
   exact pt (eG.2 ⟨by omega,by omega,by omega,by omega,by omega,fun _=>dX hu,by omega,by omega,by omega,by omega⟩)
 by_cases h8:p.kind=8
 ·(repeat' first|refine vs ?_|(refine br ?_ ?_<;>first|exact bx|intro _)|((with_reducible refine aJ ?_);simp only[g0,g1,g2]))
  refine aY p.l.length (fun i vs h1=>vs=[.int .i64 (i:Int)]∧i≤p.l.length∧Ext (h.push ⟨p.cs v,0,0⟩) h1∧bW p.l (fun _ x=>¬ eP l n x) i) ⟨rfl,Nat.zero_le _,aG,up0⟩ ?_
  rintro i vs h1 _ ⟨rfl,hi,e1,hu⟩
  have B1:Bk h1 h.n (p.cs v) 0:=fK e1 iE
  simp only[g0]
  refine vs ?_
  refine br (fun hlt=>?_) (fun hge=>?_)
  ·obtain⟨x,hx,-,-⟩:=aR (show i < p.l.length by omega)
   have hm:=List.mem_of_getElem? hx
   refine vs ?_
   refine bS r hx rfl ?_
   intro bb o cs Fi aa q _
   rw[Pol.bX] at q
   obtain⟨w,rfl,q⟩:=q
   have mQ:=@ih x hm
   (repeat' first|refine vs ?_|(refine br ?_ ?_<;>first|exact bx|intro _)|((with_reducible refine aB jG ?_);(refine aX (mQ ah ah) ?_ ?_<;>intro hn))|((with_reducible refine aC ?_);((first|refine ix ?_|refine ixi ?_|(refine ixg ?_;intro _ _)|(refine aL ?_;intro _ _));first|rintro _ _ _ _ _ ⟨rfl,rfl⟩ _|rintro _ _ _ _ _ ⟨_,rfl,_⟩ _|rintro _ _ _ _ _ ⟨_,_,_,_,rfl,rfl,_,_⟩ _|intro _ _ _ _ _ _ _))|(refine sx ?_;intro _ _)|((with_reducible refine aJ ?_);simp only[g0,g1,g2]))
   ·exact pt (eG.2 ⟨by omega,by omega,by omega,by omega,by omega,by omega,fun _=>⟨x,hm,hn⟩,by omega,by omega,by omega⟩)
   ·exact⟨by omega,rfl,by omega,aG,upS hu hx hn⟩
  ·(repeat' first|refine vs ?_|(refine br ?_ ?_<;>first|exact bx|intro _)|((with_reducible refine aC ?_);((first|refine ix ?_|refine ixi ?_|(refine ixg ?_;intro _ _)|(refine aL ?_;intro _ _));first|rintro _ _ _ _ _ ⟨rfl,rfl⟩ _|rintro _ _ _ _ _ ⟨_,rfl,_⟩ _|rintro _ _ _ _ _ ⟨_,_,_,_,rfl,rfl,_,_⟩ _|intro _ _ _ _ _ _ _))|(refine sx ?_;intro _ _)|((with_reducible refine aJ ?_);simp only[g0,g1,g2]))
   rw[show i=p.l.length by omega] at hu
   refine pf fun k=>?_
   obtain⟨y,hy,q⟩:=(eG.1 k).2.2.2.2.2.2.1 h8
   exact dX hu y hy q
 by_cases h9:p.kind=9
 ·(repeat' first|refine vs ?_|(refine br ?_ ?_<;>first|exact bx|intro _)|((with_reducible refine aJ ?_);simp only[g0,g1,g2]))
  ·have he:p.l=[]:=List.length_eq_zero_iff.1 (by omega)
   exact pt (eG.2 ⟨by omega,by omega,by omega,by omega,by omega,by omega,by omega,fun _ y hy=>(by rw[he] at hy;cases hy),by omega,by omega⟩)
  ·obtain⟨x,hx,-,-⟩:=aR (show 0 < p.l.length by omega)
   have hm:=List.mem_of_getElem? hx
   refine qV r (by omega) hx rfl ?_
   intro bb o cs Fi aa q _
   rw[Pol.bX] at q
   obtain⟨w,rfl,q⟩:=q
   have mQ:=@ih x hm
   (repeat' first|refine vs ?_|(refine br ?_ ?_<;>first|exact bx|intro _)|((with_reducible refine aB jG ?_);(refine aX (mQ ah ah) ?_ ?_<;>intro hn))|((with_reducible refine aC ?_);((first|refine ix ?_|refine ixi ?_|(refine ixg ?_;intro _ _)|(refine aL ?_;intro _ _));first|rintro _ _ _ _ _ ⟨rfl,rfl⟩ _|rintro _ _ _ _ _ ⟨_,rfl,_⟩ _|rintro _ _ _ _ _ ⟨_,_,_,_,rfl,rfl,_,_⟩ _|intro _ _ _ _ _ _ _))|(refine sx ?_;intro _ _)|((with_reducible refine aJ ?_);simp only[g0,g1,g2]))
   ·exact pf fun k=>(eG.1 k).2.2.2.2.2.2.2.1 h9 x hx hn
   ·exact pt (eG.2 ⟨by omega,by omega,by omega,by omega,by omega,by omega,by omega,fun _ y hy=>by rw[hx] at hy;cases hy;exact hn,by omega,by omega⟩)
 (repeat' first|refine vs ?_|(refine br ?_ ?_<;>first|exact bx|intro _)|((with_reducible refine aB Cm ?_);refine aQ (agO ah) ?_)|((with_reducible refine aB Bo ?_);refine aQ (aex ah) ?_)|((with_reducible refine aB Ch ?_);(refine aX (agE (p:=p) ah) ?_ ?_<;>intro hn))|((with_reducible refine aC ?_);((first|refine ix ?_|refine ixi ?_|(refine ixg ?_;intro _ _)|(refine aL ?_;intro _ _));first|rintro _ _ _ _ _ ⟨rfl,rfl⟩ _|rintro _ _ _ _ _ ⟨_,rfl,_⟩ _|rintro _ _ _ _ _ ⟨_,_,_,_,rfl,rfl,_,_⟩ _|intro _ _ _ _ _ _ _))|(refine sx ?_;intro _ _)|((with_reducible refine aJ ?_);simp only[g0,g1,g2]))
 all_goals first
  |(refine pt (eG.2 ⟨?_,?_,?_,?_,?_,by omega,by omega,by omega,by omega,by omega⟩)<;>(intro q;first|omega|exact Vt.1 ⟨by omega,by omega⟩|(obtain⟨s,hs,g|g⟩:=hn<;>first|exact⟨s,hs,g.2⟩|(exfalso;omega))))
  |(refine pf fun k=>?_;obtain⟨a2,a3,a4,a5,a6,-,-,-,a10,a11⟩:=eG.1 k;first|omega|(clear a2 a3 a4 a5 a6;omega)|(have g:=a2 (by assumption);omega)|(have g:=a6 (by assumption);omega)|(have g:=Vt.2 (a3 (by assumption));omega)|(obtain⟨s,hs,g⟩:=a4 (by assumption);exact hn ⟨s,hs,.inl ⟨by assumption,g⟩⟩)|(obtain⟨s,hs,g⟩:=a5 (by assumption);exact hn ⟨s,hs,.inr ⟨by assumption,g⟩⟩))
end Go.Proofs.YtekfdoknfcedpaaGreat
