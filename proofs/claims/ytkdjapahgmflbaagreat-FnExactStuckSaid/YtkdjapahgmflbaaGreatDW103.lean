import Derived.Test.YtkdjapahgmflbaaGreatDW102
set_option linter.unusedSimpArgs false
set_option linter.unusedVariables false
set_option maxHeartbeats 1000000
namespace Go.Proofs.YtkdjapahgmflbaaGreat
open Go Go.Ab
section
def Ro (x0:AV):Prog:=.op (.box x0) fun a=>Lg 0 a fun b=>Bn .eql b (.int .i64 6) fun b=>.ite b (.fin [.val (.bool true)]) (.loop [.int .i64 0] (fun b=>Lg 4 a fun c=>Ln 0 c fun c=>Bn .lss (g b 0) c fun c=>.ite c (Lg 4 a fun a=>Ix 5 a (g b 0) fun a=>Ld 5 a fun a=>Cl sG [a] fun a=>.ite a (.fin [.val (.bool true)]) (Bn .add (g b 0) (.int .i64 1) fun a=>.leaf 0 [a])) (.leaf 2 [g b 0])) fun a b=>aB a 1 (.leaf 1 b) (aB a 2 (.fin [.val (.bool false)]) .bad))
theorem afh (x0:AV):CC Tryz.prog sG [x0] (Ro x0):=cc Tryz.func391 [1,3] (fun _=>[])
def R6 (x0:AV):Prog:=.op (.box x0) fun a=>Lg 0 a fun b=>Bn .eql b (.int .i64 6) fun b=>Gf b false 4 a fun a=>.gop b false (.call rW [a,.fn sH []]) fun a=>Pk b (.bool true) a fun a=>.fin [.val a]
theorem af3 (x0:AV):CC Tryz.prog sH [x0] (R6 x0):=cc Tryz.func131
def aag (x0 x1:AV):Prog:=Ln 0 x0 fun a=>.loop [.int .i64 0] (fun b=>Bn .lss (g b 0) a fun a=>.ite a (Ix 5 x0 (g b 0) fun a=>Ld 5 a fun a=>.op (.iC x1 [a]) fun a=>.ite a (.fin [.val (g b 0)]) (Bn .add (g b 0) (.int .i64 1) fun a=>.leaf 0 [a])) (.leaf 2 [g b 0])) fun a b=>aB a 1 (.leaf 1 b) (aB a 2 (.fin [.val (.int .i64 (-1))]) .bad)
theorem aai (x0 x1:AV):CC Tryz.prog CZ [x0,x1] (aag x0 x1):=cc Tryz.func340 [0,1,7,8] (fun _=>[])
def Oo (x0 x1:AV):Prog:=Cl CZ [x0,x1] fun a=>Bn .geq a (.int .i64 0) fun a=>.fin [.val a]
theorem ZU (x0 x1:AV):CC Tryz.prog rW [x0,x1] (Oo x0 x1):=cc Tryz.func252
def Ul (x0 x1 x2:AV):Prog:=.op (.box x0) fun a=>Lg 0 a fun b=>Bn .eql b (.int .i64 1) fun c=>.ite c (.fin [.val (.bool true)]) (Bn .eql b (.int .i64 2) fun c=>.ite c (Cl E5 [x1] fun a=>Bn .gtr a (.int .i64 0) fun a=>.fin [.val a]) (Bn .eql b (.int .i64 3) fun c=>.ite c (Ln 0 x1 fun b=>Bn .gtr b (.int .i64 0) fun b=>.gop b true (.mv x1) fun c=>.gop b true (.fad 1 a) fun a=>.gop b true (.ld1 a) fun d=>.gop b true (.call Em [c]) fun c=>.kC b true (.ld1 a) d (.gop b true (.bin 0 .geq c d) fun a=>Pk b a (.bool false) fun a=>.fin [.val a])) (Bn .eql b (.int .i64 4) fun c=>.scope (.ite c (.leaf 0 [c]) (Bn .eql b (.int .i64 5) fun a=>.leaf 0 [a])) (fun c=>.ite (g c 0) (Ld 5 a fun a=>Cl EX [a,x1] fun a=>.fin [.val a]) (Bn .eql b (.int .i64 6) fun c=>.ite c (Ln 0 x1 fun a=>Bn .geq x2 a fun a=>.fin [.val a]) (Bn .eql b (.int .i64 7) fun c=>.ite c (.loop [.int .i64 0] (fun b=>Lg 4 a fun c=>Ln 0 c fun c=>Bn .lss (g b 0) c fun c=>.ite c (Lg 4 a fun a=>Ix 5 a (g b 0) fun a=>Ld 5 a fun a=>Cl lX [a,x1,x2] fun a=>.op (.una .not a) fun a=>.ite a (.fin [.val (.bool false)]) (Bn .add (g b 0) (.int .i64 1) fun a=>.leaf 0 [a])) (.leaf 3 [g b 0])) fun a b=>aB a 1 (.leaf 1 b) (aB a 3 (.fin [.val (.bool true)]) .bad)) (Bn .eql b (.int .i64 8) fun c=>.ite c (.loop [.int .i64 0] (fun b=>Lg 4 a fun c=>Ln 0 c fun c=>Bn .lss (g b 0) c fun c=>.ite c (Lg 4 a fun a=>Ix 5 a (g b 0) fun a=>Ld 5 a fun a=>Cl lX [a,x1,x2] fun a=>.ite a (.fin [.val (.bool true)]) (Bn .add (g b 0) (.int .i64 1) fun a=>.leaf 0 [a])) (.leaf 5 [g b 0])) fun a b=>aB a 1 (.leaf 1 b) (aB a 5 (.fin [.val (.bool false)]) .bad)) (Bn .eql b (.int .i64 9) fun b=>.ite b (Lg 4 a fun b=>Ln 0 b fun b=>Bn .eql b (.int .i64 0) fun b=>Gf b false 4 a fun a=>.gop b false (.idx 5 a (.int .i64 0)) fun a=>.gop b false (.ldn 5 a) fun a=>.gop b false (.mv x1) fun c=>.gop b false (.mv x2) fun d=>.gop b false (.call lX [a,c,d]) fun a=>.gop b false (.una .not a) fun a=>Pk b (.bool true) a fun a=>.fin [.val a]) (.fin [.val (.bool false)])))))) fun a b=>aB a 1 (.leaf 1 b) .bad)))
theorem ain (x0 x1 x2:AV):CC Tryz.prog lX [x0,x1,x2] (Ul x0 x1 x2):=cc Tryz.func390 [1,2,3,7,8,10,30] (fun r=>if r=7 then[(0,[]),(1,[]),(2,[]),(3,[]),(4,[]),(6,[]),(7,[]),(5,[7]),(8,[]),(9,[]),(10,[])] else[])
end
theorem VR:∀ {l:List Pol},Cj l↔∃ y∈l,lU y
 |[]=>by simp[Cj]
 |p::ps=>by simp only[Cj,List.mem_cons,exists_eq_or_imp,VR (l:=ps)]
theorem yC {p:Pol}:lU p↔p.kind=6∨∃ y∈p.l,lU y:=by
 cases p with
 |mk k n s t l=>rw[←VR];simp only[lU,Pol.kind,Pol.l]
theorem U5 {l:List Span} {n:Int}:∀ {ps:List Pol},BJ l n ps↔∀ y∈ps,gZ l n y
 |[]=>by simp[BJ]
 |p::ps=>by simp only[BJ,List.mem_cons,forall_eq_or_imp,U5 (ps:=ps)]
theorem U4 {l:List Span} {n:Int}:∀ {ps:List Pol},BI l n ps↔∃ y∈ps,gZ l n y
 |[]=>by simp[BI]
 |p::ps=>by simp only[BI,List.mem_cons,exists_eq_or_imp,U4 (ps:=ps)]
theorem ai1 {l:List Span} {n:Int}:∀ {ps:List Pol},Hg l n ps↔∀ y,ps[0]? =some y→¬ gZ l n y
 |[]=>by simp[Hg]
 |p::ps=>by simp[Hg]
theorem gX {l:List Span} {n:Int} {p:Pol}:gZ l n p↔(p.kind=2→0 < errs l)∧(p.kind=3→∃ s∈l,p.n≤lenOf s)∧(p.kind=4→∃ s∈l,Gi p.key p.text s)∧(p.kind=5→∃ s∈l,Gz p.key p.n s)∧(p.kind=6→(l.length:Int)≤n)∧(p.kind=7→∀ y∈p.l,gZ l n y)∧(p.kind=8→∃ y∈p.l,gZ l n y)∧(p.kind=9→∀ y,p.l[0]? =some y→¬ gZ l n y)∧1≤p.kind∧p.kind≤9:=by
 cases p with
 |mk k pn s t ps=>
  rw[←U5,←U4,←ai1]
  simp only[gZ,Pol.kind,Pol.n,Pol.key,Pol.text,Pol.l,implies_true,true_and]
theorem Ec (p:Pol):∀ {h:AH} {v:AV} {F:List Nat},au h v p.l F→aM Tryz.prog sG [.agg (p.cs v)] h (.bool (bp (lU p))):=by
 refine lF (p:=fun p=>∀ {h:AH} {v:AV} {F:List Nat},au h v p.l F→aM Tryz.prog sG [.agg (p.cs v)] h (.bool (bp (lU p)))) ?_ p
 intro p ih h v F r
 refine reader (afh _) (by simp only[old]) ?_
 unfold Ro
 have hsm:=r.small
 (repeat' first|refine vs ?_|(refine br ?_ ?_<;>first|exact bx|intro _)|fail)
 ·exact pt (yC.2 (.inl (by assumption)))
 refine aT p.l.length (fun i vs h1=>vs=[.int .i64 (i:Int)]∧i≤p.l.length∧Ext (h.push ⟨p.cs v,0,0⟩) h1∧cu p.l (fun _ x=>¬ lU x) i) ⟨rfl,Nat.zero_le _,aD,up0⟩ ?_
 rintro i vs h1 _ ⟨rfl,hi,e1,hu⟩
 have B1:Bk h1 h.n (p.cs v) 0:=dX e1 fD
 simp only[g0]
 refine vs ?_
 refine br (fun hlt=>?_) (fun hge=>?_)
 ·obtain⟨x,hx,-,-⟩:=aP (show i < p.l.length by omega)
  have hm:=List.mem_of_getElem? hx
  refine vs ?_
  refine bV r hx rfl ?_
  intro bb o cs Fi aa q _
  rw[Pol.dw] at q
  obtain⟨w,rfl,q⟩:=q
  have Ec:=@ih x hm
  (repeat' first|refine vs ?_|((with_reducible refine aA sG ?_);(refine aS (Ec ah) ?_ ?_<;>intro hn))|fail)
  ·exact pt (yC.2 (.inr ⟨x,hm,hn⟩))
  ·exact⟨by omega,rfl,by omega,aD,upS hu hx hn⟩
 ·(repeat' first|refine vs ?_|fail)
  rw[show i=p.l.length by omega] at hu
  refine pf fun k=>?_
  rcases yC.1 k with k|⟨y,hy,k⟩
  ·contradiction
  ·exact fV hu y hy k
theorem aaf {h:AH} {xs:List Pol} {x0:AV} {F:List Nat} {f:FuncId} {caps:List AV} {p:Pol→Bool} (r:au h x0 xs F) (hf:qP Pol Tryz.prog h f caps xs p):
  aM Tryz.prog CZ [x0,.fn f caps] h (.int .i64 (idx p xs)):=
 reader (aai _ _) (by simp only[old]) (VQ (w:=5) rfl r hf)
theorem I9 {h:AH} {xs:List Pol} {x0:AV} {F:List Nat} {f:FuncId} {caps:List AV} {p:Pol→Bool} (r:au h x0 xs F) (hf:qP Pol Tryz.prog h f caps xs p):
  aM Tryz.prog rW [x0,.fn f caps] h (.bool (bp (∃ x∈xs,p x=true))):=by
 refine reader (ZU _ _) (by simp only[old]) ?_
 unfold Oo
 (repeat' first|refine vs ?_|(refine br ?_ ?_<;>first|exact bx|intro _)|((with_reducible refine aA CZ ?_);refine aJ (aaf ah hf) ?_)|fail)
 ·exact pt (pz.1 (by assumption))
 ·exact pf fun k=>absurd (pz.2 k) (by assumption)
theorem QS (p:Pol):∀ {h:AH} {v:AV} {F:List Nat},au h v p.l F→aM Tryz.prog sH [.agg (p.cs v)] h (.bool (bp (lU p))):=by
 refine lF (p:=fun p=>∀ {h:AH} {v:AV} {F:List Nat},au h v p.l F→aM Tryz.prog sH [.agg (p.cs v)] h (.bool (bp (lU p)))) ?_ p
 intro p ih h v F r
 refine reader (af3 _) (by simp only[old]) ?_
 unfold R6
 have hl:∀ {H:AH},qP Pol Tryz.prog H sH [] p.l (fun x=>bp (lU x)):=by
  intro H x cs F hm q
  rw[Pol.dw] at q
  obtain⟨w,rfl,q⟩:=q
  exact ih x hm q
 (repeat' first|refine vs ?_|(refine br ?_ ?_<;>first|exact bx|intro _)|((with_reducible refine aA rW ?_);(refine aS (I9 ah hl) ?_ ?_<;>intro hn))|fail)
 ·exact pt (yC.2 (.inl (by assumption)))
 ·obtain⟨y,hy,q⟩:=hn
  exact pt (yC.2 (.inr ⟨y,hy,tH q⟩))
 ·refine pf fun k=>?_
  rcases yC.1 k with k|⟨y,hy,k⟩
  ·contradiction
  ·exact hn ⟨y,hy,fI k⟩
theorem qd (p:Pol) {l:List Span} {n:Int}:∀ {h:AH} {v vl:AV} {F Fl:List Nat},au h v p.l F→au h vl l Fl→aM Tryz.prog lX [.agg (p.cs v),vl,.int .i64 n] h (.bool (bp (gZ l n p))):=by
 refine lF (p:=fun p=>∀ {h:AH} {v vl:AV} {F Fl:List Nat},au h v p.l F→au h vl l Fl→aM Tryz.prog lX [.agg (p.cs v),vl,.int .i64 n] h (.bool (bp (gZ l n p)))) ?_ p
 intro p ih h v vl F Fl r rl
 refine reader (ain _ _ _) (by simp only[old]) ?_
 unfold Ul
 have hsm:=r.small
 have hsl:=rl.small
 by_cases h7:p.kind=7
 ·(repeat' first|refine vs ?_|(refine br ?_ ?_<;>first|exact bo|intro _)|refine gS ?_|fail)
  refine aT p.l.length (fun i vs h1=>vs=[.int .i64 (i:Int)]∧i≤p.l.length∧Ext (h.push ⟨p.cs v,0,0⟩) h1∧cu p.l (fun _ x=>gZ l n x) i) ⟨rfl,Nat.zero_le _,aD,up0⟩ ?_
  rintro i vs h1 _ ⟨rfl,hi,e1,hu⟩
  have B1:Bk h1 h.n (p.cs v) 0:=dX e1 fD
  simp only[g0]
  refine vs ?_
  refine br (fun hlt=>?_) (fun hge=>?_)
  ·obtain⟨x,hx,-,-⟩:=aP (show i < p.l.length by omega)
   have hm:=List.mem_of_getElem? hx
   refine vs ?_
   refine bV r hx rfl ?_
   intro bb o cs Fi aa q _
   rw[Pol.dw] at q
   obtain⟨w,rfl,q⟩:=q
   have qd:=@ih x hm
   (repeat' first|refine vs ?_|((with_reducible refine aA lX ?_);(refine aS (qd ah ah) ?_ ?_<;>intro hn))|fail)
   ·exact⟨by omega,rfl,by omega,aD,upS hu hx hn⟩
   ·exact pf fun k=>hn ((gX.1 k).2.2.2.2.2.1 h7 x hm)
  ·(repeat' first|refine vs ?_|fail)
   rw[show i=p.l.length by omega] at hu
   exact pt (gX.2 ⟨by omega,by omega,by omega,by omega,by omega,fun _=>fV hu,by omega,by omega,by omega,by omega⟩)
 by_cases h8:p.kind=8
 ·(repeat' first|refine vs ?_|(refine br ?_ ?_<;>first|exact bo|intro _)|refine gS ?_|fail)
  refine aT p.l.length (fun i vs h1=>vs=[.int .i64 (i:Int)]∧i≤p.l.length∧Ext (h.push ⟨p.cs v,0,0⟩) h1∧cu p.l (fun _ x=>¬ gZ l n x) i) ⟨rfl,Nat.zero_le _,aD,up0⟩ ?_
  rintro i vs h1 _ ⟨rfl,hi,e1,hu⟩
  have B1:Bk h1 h.n (p.cs v) 0:=dX e1 fD
  simp only[g0]
  refine vs ?_
  refine br (fun hlt=>?_) (fun hge=>?_)
  ·obtain⟨x,hx,-,-⟩:=aP (show i < p.l.length by omega)
   have hm:=List.mem_of_getElem? hx
   refine vs ?_
   refine bV r hx rfl ?_
   intro bb o cs Fi aa q _
   rw[Pol.dw] at q
   obtain⟨w,rfl,q⟩:=q
   have qd:=@ih x hm
   (repeat' first|refine vs ?_|((with_reducible refine aA lX ?_);(refine aS (qd ah ah) ?_ ?_<;>intro hn))|fail)
   ·exact pt (gX.2 ⟨by omega,by omega,by omega,by omega,by omega,by omega,fun _=>⟨x,hm,hn⟩,by omega,by omega,by omega⟩)
   ·exact⟨by omega,rfl,by omega,aD,upS hu hx hn⟩
  ·(repeat' first|refine vs ?_|fail)
   rw[show i=p.l.length by omega] at hu
   refine pf fun k=>?_
   obtain⟨y,hy,q⟩:=(gX.1 k).2.2.2.2.2.2.1 h8
   exact fV hu y hy q
 by_cases h9:p.kind=9
 ·(repeat' first|refine vs ?_|(refine br ?_ ?_<;>first|exact bo|intro _)|refine gS ?_|fail)
  ·have he:p.l=[]:=List.length_eq_zero_iff.1 (by omega)
   exact pt (gX.2 ⟨by omega,by omega,by omega,by omega,by omega,by omega,by omega,fun _ y hy=>(by rw[he] at hy;cases hy),by omega,by omega⟩)
  ·obtain⟨x,hx,-,-⟩:=aP (show 0 < p.l.length by omega)
   have hm:=List.mem_of_getElem? hx
   refine vV r (by omega) hx rfl ?_
   intro bb o cs Fi aa q _
   rw[Pol.dw] at q
   obtain⟨w,rfl,q⟩:=q
   have qd:=@ih x hm
   (repeat' first|refine vs ?_|((with_reducible refine aA lX ?_);(refine aS (qd ah ah) ?_ ?_<;>intro hn))|fail)
   ·exact pf fun k=>(gX.1 k).2.2.2.2.2.2.2.1 h9 x hx hn
   ·exact pt (gX.2 ⟨by omega,by omega,by omega,by omega,by omega,by omega,by omega,fun _ y hy=>by rw[hx] at hy;cases hy;exact hn,by omega,by omega⟩)
 (repeat' first|refine vs ?_|(refine br ?_ ?_<;>first|exact bo|intro _)|((with_reducible refine aA E5 ?_);refine aJ (agk ah) ?_)|((with_reducible refine aA Em ?_);refine aJ (ad3 ah) ?_)|((with_reducible refine aA EX ?_);(refine aS (af9 (p:=p) ah) ?_ ?_<;>intro hn))|refine gS ?_|fail)
 all_goals first
  |(refine pt (gX.2 ⟨?_,?_,?_,?_,?_,by omega,by omega,by omega,by omega,by omega⟩)<;>(intro q;first|omega|exact Yt.1 ⟨by omega,by omega⟩|(obtain⟨s,hs,g|g⟩:=hn<;>first|exact⟨s,hs,g.2⟩|(exfalso;omega))))
  |(refine pf fun k=>?_;obtain⟨a2,a3,a4,a5,a6,-,-,-,a10,a11⟩:=gX.1 k;first|omega|(clear a2 a3 a4 a5 a6;omega)|(have g:=a2 (by assumption);omega)|(have g:=Yt.2 (a3 (by assumption));omega)|(obtain⟨s,hs,g⟩:=a4 (by assumption);exact hn ⟨s,hs,.inl ⟨by assumption,g⟩⟩)|(obtain⟨s,hs,g⟩:=a5 (by assumption);exact hn ⟨s,hs,.inr ⟨by assumption,g⟩⟩))
end Go.Proofs.YtkdjapahgmflbaaGreat
