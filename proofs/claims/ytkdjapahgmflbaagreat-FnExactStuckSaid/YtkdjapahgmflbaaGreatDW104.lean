import Derived.Test.YtkdjapahgmflbaaGreatDW103
set_option linter.unusedSimpArgs false
set_option linter.unusedVariables false
set_option maxHeartbeats 1000000
namespace Go.Proofs.YtkdjapahgmflbaaGreat
open Go Go.Ab
section
def Z6 (x0 x1:AV):Prog:=Ln 0 x0 fun a=>.loop [.int .i64 0] (fun b=>Bn .lss (g b 0) a fun a=>.ite a (Ix 6 x0 (g b 0) fun a=>Ld 6 a fun a=>.op (.iC x1 [a]) fun a=>.ite a (.fin [.val (g b 0)]) (Bn .add (g b 0) (.int .i64 1) fun a=>.leaf 0 [a])) (.leaf 2 [g b 0])) fun a b=>aB a 1 (.leaf 1 b) (aB a 2 (.fin [.val (.int .i64 (-1))]) .bad)
theorem Z9 (x0 x1:AV):CC Tryz.prog CV [x0,x1] (Z6 x0 x1):=cc Tryz.func393 [0,1,7,8] (fun _=>[])
def Oj (x0 x1:AV):Prog:=Cl CV [x0,x1] fun a=>Bn .geq a (.int .i64 0) fun a=>.fin [.val a]
theorem ZN (x0 x1:AV):CC Tryz.prog CQ [x0,x1] (Oj x0 x1):=cc Tryz.func339
def Qm (x0 x1:AV):Prog:=Cl CQ [x0,x1] fun a=>.fin [.val a]
theorem adx (x0 x1:AV):CC Tryz.prog sj [x0,x1] (Qm x0 x1):=cc Tryz.func246
def RY (x0 x1 x2:AV):Prog:=.op (.box x0) fun a=>Ld 5 a fun a=>.op (.ld1 x1) fun b=>.op (.ld1 x2) fun c=>Cl qg [a,b,c] fun a=>.fin [.val a]
theorem afX (x0 x1 x2:AV):CC Tryz.prog Ai [x0,x1,x2] (RY x0 x1 x2):=cc Tryz.func244
def RX (x0 x1:AV):Prog:=.op (.box x0) fun a=>Ld 6 a fun a=>.op (.fad 1 x1) fun b=>.op (.ld1 b) fun c=>Cl D8 [a] fun a=>.chk (.ld1 b) c (Bn .geq a c fun a=>.fin [.val a])
theorem afW (x0 x1:AV):CC Tryz.prog Kt [x0,x1] (RX x0 x1):=cc Tryz.func247 [] (fun r=>if r=1 then[(0,[]),(2,[]),(3,[]),(1,[3]),(4,[]),(5,[])] else[])
def RU (x0 x1:AV):Prog:=.op (.box x0) fun a=>Lg 5 a fun a=>Lg 2 x1 fun b=>Cl su [a,b] fun a=>.op (.ext a 0) fun b=>.op (.ext a 1) fun a=>.op (.alloc [.str ⟨#[]⟩,.bool false,.int .i64 0,.str ⟨#[]⟩]) fun c=>.op (.st 4 c b) fun _=>Gf a true 1 c fun b=>.gop a true (.una .not b) fun b=>Pk a b (.bool false) fun a=>Gf a true 3 c fun b=>Gf a true 3 x1 fun c=>.gop a true (.bin 1 .eql b c) fun b=>Pk a b (.bool false) fun a=>.fin [.val a]
theorem afV (x0 x1:AV):CC Tryz.prog Kr [x0,x1] (RU x0 x1):=cc Tryz.func249
def RS (x0 x1:AV):Prog:=.op (.box x0) fun a=>Lg 5 a fun a=>Lg 2 x1 fun b=>Cl su [a,b] fun a=>.op (.ext a 0) fun b=>.op (.ext a 1) fun a=>.op (.alloc [.str ⟨#[]⟩,.bool false,.int .i64 0,.str ⟨#[]⟩]) fun c=>.op (.st 4 c b) fun _=>Gf a true 1 c fun b=>Pk a b (.bool false) fun a=>Gf a true 2 c fun b=>Gf a true 1 x1 fun c=>.gop a true (.bin 0 .geq b c) fun b=>Pk a b (.bool false) fun a=>.fin [.val a]
theorem afU (x0 x1:AV):CC Tryz.prog Kq [x0,x1] (RS x0 x1):=cc Tryz.func251
def RQ (x0 x1:AV):Prog:=.op (.box x0) fun a=>.op (.ld1 x1) fun b=>Ld 5 a fun a=>.op (.iC b [a]) fun a=>.op (.una .not a) fun a=>.fin [.val a]
theorem afT (x0 x1:AV):CC Tryz.prog Ko [x0,x1] (RQ x0 x1):=cc Tryz.func253
def Ux (x0 x1 x2:AV):Prog:=.op (.box x0) fun a=>.op (.box x1) fun b=>.op (.box x2) fun c=>.op (.kr Ai [b,c]) fun d=>.op (.alloc [AV.un]) fun e=>.op (.st 1 e d) fun _=>Lg 0 a fun d=>Bn .eql d (.int .i64 1) fun f=>.ite f (.fin [.val (.bool true)]) (Bn .eql d (.int .i64 2) fun f=>.ite f (.op (.ld1 b) fun a=>Cl Fv [a] fun a=>Bn .gtr a (.int .i64 0) fun a=>.fin [.val a]) (Bn .eql d (.int .i64 3) fun f=>.ite f (.op (.ld1 b) fun b=>.op (.kr Kt [a]) fun a=>Cl sj [b,a] fun a=>.fin [.val a]) (Bn .eql d (.int .i64 4) fun f=>.ite f (.op (.ld1 b) fun b=>.op (.kr Kr [a]) fun a=>Cl sj [b,a] fun a=>.fin [.val a]) (Bn .eql d (.int .i64 5) fun f=>.ite f (.op (.ld1 b) fun b=>.op (.kr Kq [a]) fun a=>Cl sj [b,a] fun a=>.fin [.val a]) (Bn .eql d (.int .i64 6) fun f=>.ite f (.op (.ld1 c) fun a=>.op (.ld1 b) fun b=>Ln 0 b fun b=>Bn .geq a b fun a=>.fin [.val a]) (Bn .eql d (.int .i64 7) fun b=>.ite b (Lg 4 a fun a=>.op (.kr Ko [e]) fun b=>Cl rW [a,b] fun a=>.op (.una .not a) fun a=>.fin [.val a]) (Bn .eql d (.int .i64 8) fun b=>.ite b (Lg 4 a fun a=>.op (.ld1 e) fun b=>Cl rW [a,b] fun a=>.fin [.val a]) (Bn .eql d (.int .i64 9) fun b=>.ite b (Lg 4 a fun b=>Ln 0 b fun b=>Bn .eql b (.int .i64 0) fun b=>.gop b false (.ld1 e) fun c=>Gf b false 4 a fun a=>.gop b false (.idx 5 a (.int .i64 0)) fun a=>.gop b false (.ldn 5 a) fun a=>.gop b false (.iC c [a]) fun a=>.gop b false (.una .not a) fun a=>Pk b (.bool true) a fun a=>.fin [.val a]) (.fin [.val (.bool false)])))))))))
theorem aiy (x0 x1 x2:AV):CC Tryz.prog qg [x0,x1,x2] (Ux x0 x1 x2):=cc Tryz.func130 [] (fun r=>if r=20 then[(0,[]),(1,[]),(2,[]),(3,[]),(4,[]),(5,[]),(6,[]),(7,[]),(8,[]),(9,[]),(10,[]),(11,[]),(12,[]),(13,[])] else[])
def UC (x0 x1 x2:AV):Prog:=.op (.box x0) fun a=>Ld 5 a fun b=>Cl qg [b,x1,x2] fun b=>.op (.una .not b) fun b=>.ite b (.fin [.val (.bool false),.val (.int .i64 0)]) (Ld 5 a fun a=>Cl sH [a] fun a=>.op (.una .not a) fun a=>.ite a (.fin [.val (.bool true),.val (.int .i64 0)]) (Ln 0 x1 fun a=>Cl jL [x2] fun b=>.op (.mnx true [a,b]) fun a=>.fin [.val (.bool true),.val a]))
theorem aiC (x0 x1 x2:AV):CC Tryz.prog Ay [x0,x1,x2] (UC x0 x1 x2):=cc Tryz.func43
def Uq (x0 x1 x2:AV):Prog:=.op (.box x0) fun a=>Ld 5 a fun b=>Cl lX [b,x1,x2] fun b=>.op (.una .not b) fun b=>.ite b (.fin [.val (.bool false),.val (.int .i64 0)]) (Ld 5 a fun a=>Cl sG [a] fun a=>.op (.una .not a) fun a=>.ite a (.fin [.val (.bool true),.val (.int .i64 0)]) (Ln 0 x1 fun a=>Cl jv [x2] fun b=>Bn .gtr a b fun b=>.scope (.ite b (Cl jv [x2] fun a=>.leaf 0 [a]) (.leaf 0 [a])) (fun a=>.fin [.val (.bool true),.val (g a 0)]) fun a b=>aB a 1 (.leaf 1 b) .bad))
theorem air (x0 x1 x2:AV):CC Tryz.prog Av [x0,x1,x2] (Uq x0 x1 x2):=cc Tryz.func337 [8] (fun _=>[])
end
theorem Z0 {h:AH} {xs:List Span} {x0:AV} {F:List Nat} {f:FuncId} {caps:List AV} {p:Span→Bool} (r:au h x0 xs F) (hf:Looks Span Tryz.prog h f caps p):
  aM Tryz.prog CV [x0,.fn f caps] h (.int .i64 (idx p xs)):=
 reader (Z9 _ _) (by simp only[old]) (Gb (w:=6) rfl r hf)
theorem ZI {h:AH} {xs:List Span} {x0:AV} {F:List Nat} {f:FuncId} {caps:List AV} {p:Span→Bool} (r:au h x0 xs F) (hf:Looks Span Tryz.prog h f caps p):
  aM Tryz.prog CQ [x0,.fn f caps] h (.bool (bp (∃ x∈xs,p x=true))):=by
 refine reader (ZN _ _) (by simp only[old]) ?_
 unfold Oj
 (repeat' first|refine vs ?_|(refine br ?_ ?_<;>first|exact bx|intro _)|((with_reducible refine aA CV ?_);refine aJ (Z0 ah hf) ?_)|fail)
 ·exact pt (pz.1 (by assumption))
 ·exact pf fun k=>absurd (pz.2 k) (by assumption)
theorem JF {h:AH} {xs:List Span} {x0:AV} {F:List Nat} {f:FuncId} {caps:List AV} {p:Span→Bool} (r:au h x0 xs F) (hf:Looks Span Tryz.prog h f caps p):
  aM Tryz.prog sj [x0,.fn f caps] h (.bool (bp (∃ x∈xs,p x=true))):=by
 refine reader (adx _ _) (by simp only[old]) ?_
 unfold Qm
 (repeat' first|refine vs ?_|((with_reducible refine aA CQ ?_);refine aJ (ZI ah hf) ?_)|fail)
 exact pb rfl
def YU (p:Pol) (s:Span):Bool:=decide (p.n≤lenOf s)
theorem aez {h:AH} {b:Nat} {p:Pol} {v:AV} (a:At h b 0 (p.cs v)):Looks Span Tryz.prog h Kt [.ptr b 0] (YU p):=by
 have a:At h b 0 [.int .i64 p.kind,.int .i64 p.n,.str p.key,.str p.text,v]:=a
 rintro x cs F ⟨w,rfl,r⟩
 refine reader (afW _ _) (by simp only[old]) ?_
 unfold RX
 (repeat' first|refine vs ?_|(refine br ?_ ?_<;>first|exact bx|intro _)|((with_reducible refine aA D8 ?_);refine aJ (acS (s:=x)) ?_)|fail)
 all_goals(refine pb ?_;simp[YU, *])
noncomputable def amt (p:Pol) (s:Span):Bool:=bp (Gi p.key p.text s)
noncomputable def anz (p:Pol) (s:Span):Bool:=bp (Gz p.key p.n s)
theorem aey {h:AH} {b:Nat} {p:Pol} {v:AV} (a:At h b 0 (p.cs v)):Looks Span Tryz.prog h Kr [.ptr b 0] (amt p):=by
 have a:At h b 0 [.int .i64 p.kind,.int .i64 p.n,.str p.key,.str p.text,v]:=a
 rintro x cs F ⟨w,rfl,r⟩
 refine reader (afV _ _) (by simp only[old]) ?_
 unfold RU
 rcases hq:nT x.attrs p.key with _|⟨ak,an,ai,at_⟩
 ·(repeat' first|refine vs ?_|((with_reducible refine aA su ?_);(refine aJ (DJ (l:=x.attrs) (key:=p.key) ah) ?_;unfold faV;rw[hq];simp only[Option.isSome,Option.getD]))|fail)
  refine pf ?_
  rintro⟨a,e,-⟩
  rw[hq] at e;cases e
 ·cases an
  all_goals(repeat' first|refine vs ?_|(refine br ?_ ?_<;>first|exact bx|intro _)|((with_reducible refine aA su ?_);(refine aJ (DJ (l:=x.attrs) (key:=p.key) ah) ?_;unfold faV;rw[hq];simp only[Option.isSome,Option.getD]))|fail)
  all_goals first
   |exact pt ⟨_,hq,rfl,by assumption⟩
   |(refine pf ?_;rintro⟨a',e,k2,k3⟩;rw[hq] at e;cases e;contradiction)
theorem aex {h:AH} {b:Nat} {p:Pol} {v:AV} (a:At h b 0 (p.cs v)):Looks Span Tryz.prog h Kq [.ptr b 0] (anz p):=by
 have a:At h b 0 [.int .i64 p.kind,.int .i64 p.n,.str p.key,.str p.text,v]:=a
 rintro x cs F ⟨w,rfl,r⟩
 refine reader (afU _ _) (by simp only[old]) ?_
 unfold RS
 rcases hq:nT x.attrs p.key with _|⟨ak,an,ai,at_⟩
 ·(repeat' first|refine vs ?_|((with_reducible refine aA su ?_);(refine aJ (DJ (l:=x.attrs) (key:=p.key) ah) ?_;unfold faV;rw[hq];simp only[Option.isSome,Option.getD]))|fail)
  refine pf ?_
  rintro⟨a,e,-⟩
  rw[hq] at e;cases e
 ·cases an
  all_goals(repeat' first|refine vs ?_|(refine br ?_ ?_<;>first|exact bx|intro _)|((with_reducible refine aA su ?_);(refine aJ (DJ (l:=x.attrs) (key:=p.key) ah) ?_;unfold faV;rw[hq];simp only[Option.isSome,Option.getD]))|fail)
  all_goals first
   |exact pt ⟨_,hq,rfl,by assumption⟩
   |(refine pf ?_;rintro⟨a',e,k2,k3⟩;rw[hq] at e;cases e;contradiction)
theorem Ar (p:Pol) {l:List Span} {n:Int}:∀ {h:AH} {v vl:AV} {F Fl:List Nat},au h v p.l F→au h vl l Fl→aM Tryz.prog qg [.agg (p.cs v),vl,.int .i64 n] h (.bool (bp (gZ l n p))):=by
 refine lF (p:=fun p=>∀ {h:AH} {v vl:AV} {F Fl:List Nat},au h v p.l F→au h vl l Fl→aM Tryz.prog qg [.agg (p.cs v),vl,.int .i64 n] h (.bool (bp (gZ l n p)))) ?_ p
 intro p ih h v vl F Fl r rl
 refine reader (aiy _ _ _) (by simp only[old]) ?_
 unfold Ux
 have hsm:=r.small
 have hsl:=rl.small
 refine vs ?_
 refine mX (au.cell rl) ?_
 have h1:∀ {H:AH} {b2 b3:Nat},At H b2 0 [vl]→At H b3 0 [.int .i64 n]→au H vl l Fl→∀ x∈p.l,∀ {w:AV} {G:List Nat},au H w x.l G→aM Tryz.prog Ai [.agg (x.cs w),.ptr b2 0,.ptr b3 0] H (.bool (bp (gZ l n x))):=by
  intro H b2 b3 a2 a3 rl x hm w G q
  refine reader (afX _ _ _) (by simp only[old]) ?_
  unfold RY
  have Ar:=@ih x hm
  (repeat' first|refine vs ?_|((with_reducible refine aA qg ?_);refine aJ (Ar ah ah) ?_)|fail)
  exact pb rfl
 have h8:∀ {H:AH} {b2 b3:Nat},At H b2 0 [vl]→At H b3 0 [.int .i64 n]→au H vl l Fl→qP Pol Tryz.prog H Ai [.ptr b2 0,.ptr b3 0] p.l (fun x=>bp (gZ l n x)):=by
  intro H b2 b3 a2 a3 rl x cs F hm q
  rw[Pol.dw] at q
  obtain⟨w,rfl,q⟩:=q
  exact h1 a2 a3 rl x hm q
 have h7:∀ {H:AH} {b2 b3 b5:Nat},At H b5 0 [.fn Ai [.ptr b2 0,.ptr b3 0]]→At H b2 0 [vl]→At H b3 0 [.int .i64 n]→au H vl l Fl→qP Pol Tryz.prog H Ko [.ptr b5 0] p.l (fun x=>!bp (gZ l n x)):=by
  intro H b2 b3 b5 a5 a2 a3 rl x cs F hm q
  rw[Pol.dw] at q
  obtain⟨w,rfl,q⟩:=q
  refine reader (afT _ _) (by simp only[old]) ?_
  unfold RQ
  (repeat' first|refine vs ?_|((with_reducible refine Mt ?_);(refine sU (h1 iY iY ah x hm ah) ?_))|fail)
  exact pb rfl
 by_cases h9:p.kind=9
 ·(repeat' first|refine vs ?_|(refine br ?_ ?_<;>first|exact bo|intro _)|fail)
  ·have he:p.l=[]:=List.length_eq_zero_iff.1 (by omega)
   exact pt (gX.2 ⟨by omega,by omega,by omega,by omega,by omega,by omega,by omega,fun _ y hy=>(by rw[he] at hy;cases hy),by omega,by omega⟩)
  ·obtain⟨x,hx,-,-⟩:=aP (show 0 < p.l.length by omega)
   have hm:=List.mem_of_getElem? hx
   refine vV r (by omega) hx rfl ?_
   intro bb o cs Fi aa q _
   rw[Pol.dw] at q
   obtain⟨w,rfl,q⟩:=q
   by_cases hn:gZ l n x
   ·(repeat' first|refine vs ?_|((with_reducible refine Mt ?_);(refine sU (h1 iY iY ah x hm ah) ?_;rw[fI hn]))|fail)
    exact pf fun k=>(gX.1 k).2.2.2.2.2.2.2.1 h9 x hx hn
   ·(repeat' first|refine vs ?_|((with_reducible refine Mt ?_);(refine sU (h1 iY iY ah x hm ah) ?_;rw[gu hn]))|fail)
    exact pt (gX.2 ⟨by omega,by omega,by omega,by omega,by omega,by omega,by omega,fun _ y hy=>by rw[hx] at hy;cases hy;exact hn,by omega,by omega⟩)
 by_cases k7:p.kind=7
 ·(repeat' first|refine vs ?_|(refine br ?_ ?_<;>first|exact bo|intro _)|((with_reducible refine aA rW ?_);(refine aS (I9 ah (h7 iY iY iY ah)) ?_ ?_<;>intro hn))|fail)
  ·obtain⟨y,hy,q⟩:=hn
   exact pf fun k=>by rw[fI ((gX.1 k).2.2.2.2.2.1 k7 y hy)] at q;cases q
  ·refine pt (gX.2 ⟨by omega,by omega,by omega,by omega,by omega,fun _ y hy=>?_,by omega,by omega,by omega,by omega⟩)
   refine Classical.byContradiction fun c=>hn ⟨y,hy,by rw[gu c];rfl⟩
 by_cases k8:p.kind=8
 ·(repeat' first|refine vs ?_|(refine br ?_ ?_<;>first|exact bo|intro _)|((with_reducible refine aA rW ?_);(refine aS (I9 ah (h8 iY iY ah)) ?_ ?_<;>intro hn))|fail)
  ·obtain⟨y,hy,q⟩:=hn
   exact pt (gX.2 ⟨by omega,by omega,by omega,by omega,by omega,by omega,fun _=>⟨y,hy,tH q⟩,by omega,by omega,by omega⟩)
  ·refine pf fun k=>?_
   obtain⟨y,hy,q⟩:=(gX.1 k).2.2.2.2.2.2.1 k8
   exact hn ⟨y,hy,fI q⟩
 by_cases k3:p.kind=3
 ·(repeat' first|refine vs ?_|(refine br ?_ ?_<;>first|exact bo|intro _)|((with_reducible refine aA sj ?_);(refine aS (JF ah (aez (p:=p) iY)) ?_ ?_<;>intro hn))|fail)
  ·obtain⟨s,hs,q⟩:=hn
   exact pt (gX.2 ⟨by omega,fun _=>⟨s,hs,of_decide_eq_true q⟩,by omega,by omega,by omega,by omega,by omega,by omega,by omega,by omega⟩)
  ·refine pf fun k=>?_
   obtain⟨s,hs,q⟩:=(gX.1 k).2.1 k3
   exact hn ⟨s,hs,decide_eq_true q⟩
 by_cases k4:p.kind=4
 ·(repeat' first|refine vs ?_|(refine br ?_ ?_<;>first|exact bo|intro _)|((with_reducible refine aA sj ?_);(refine aS (JF ah (aey (p:=p) iY)) ?_ ?_<;>intro hn))|fail)
  ·obtain⟨s,hs,q⟩:=hn
   exact pt (gX.2 ⟨by omega,by omega,fun _=>⟨s,hs,tH q⟩,by omega,by omega,by omega,by omega,by omega,by omega,by omega⟩)
  ·refine pf fun k=>?_
   obtain⟨s,hs,q⟩:=(gX.1 k).2.2.1 k4
   exact hn ⟨s,hs,fI q⟩
 by_cases k5:p.kind=5
 ·(repeat' first|refine vs ?_|(refine br ?_ ?_<;>first|exact bo|intro _)|((with_reducible refine aA sj ?_);(refine aS (JF ah (aex (p:=p) iY)) ?_ ?_<;>intro hn))|fail)
  ·obtain⟨s,hs,q⟩:=hn
   exact pt (gX.2 ⟨by omega,by omega,by omega,fun _=>⟨s,hs,tH q⟩,by omega,by omega,by omega,by omega,by omega,by omega⟩)
  ·refine pf fun k=>?_
   obtain⟨s,hs,q⟩:=(gX.1 k).2.2.2.1 k5
   exact hn ⟨s,hs,fI q⟩
 (repeat' first|refine vs ?_|(refine br ?_ ?_<;>first|exact bo|intro _)|((with_reducible refine aA Fv ?_);refine aJ (agL ah) ?_)|fail)
 all_goals first
  |(refine pt (gX.2 ⟨?_,by omega,by omega,by omega,?_,by omega,by omega,by omega,by omega,by omega⟩)<;>(intro q;omega))
  |(refine pf fun k=>?_;obtain⟨a2,a3,a4,a5,a6,-,-,-,a10,a11⟩:=gX.1 k;first|(clear a2 a3 a4 a5 a6;omega)|(have g:=a2 (by assumption);omega)|(have g:=a6 (by assumption);omega))
theorem ah4 {h:AH} {p:Pol} {l:List Span} {n:Int} {v vl:AV} {F Fl:List Nat} (r:au h v p.l F) (rl:au h vl l Fl):aM Tryz.prog Av [.agg (p.cs v),vl,.int .i64 n] h (.tup [.bool (pq p l n),.int .i64 (qK p l n)]):=by
 refine reader (air _ _ _) (by simp only[old,olds,and_self]) ?_
 unfold Uq
 have hsl:=rl.small
 unfold qK pq
 by_cases hw:gZ l n p
 ·rw[fI hw,if_pos rfl]
  by_cases hr:lU p
  ·rw[fI hr,if_pos rfl,Int.min_def]
   (repeat' first|refine vs ?_|(refine br ?_ ?_<;>first|exact bx|intro _)|((with_reducible refine aA lX ?_);(refine aS (qd p ah ah) ?_ ?_<;>intro hn))|((with_reducible refine aA sG ?_);(refine aS (Ec p ah) ?_ ?_<;>intro hn))|((with_reducible refine aA jv ?_);refine aJ AJ ?_)|fail)
   all_goals first
    |contradiction
    |exact pv (by rw[if_pos (by omega)];rfl)
    |exact pv (by rw[if_neg (by omega)];rfl)
  ·rw[gu hr,if_neg (by decide)]
   (repeat' first|refine vs ?_|(refine br ?_ ?_<;>intro _<;>try(exfalso;contradiction))|((with_reducible refine aA lX ?_);(refine aS (qd p ah ah) ?_ ?_<;>intro hn))|((with_reducible refine aA sG ?_);(refine aS (Ec p ah) ?_ ?_<;>intro hn))|((with_reducible refine aA jv ?_);refine aJ AJ ?_)|fail)
   all_goals first
    |contradiction
    |exact pv rfl
 ·rw[gu hw,if_neg (by decide)]
  (repeat' first|refine vs ?_|((with_reducible refine aA lX ?_);(refine aS (qd p ah ah) ?_ ?_<;>intro hn))|fail)
  all_goals first
   |contradiction
   |exact pv rfl
theorem aia {h:AH} {p:Pol} {l:List Span} {n:Int} {v vl:AV} {F Fl:List Nat} (r:au h v p.l F) (rl:au h vl l Fl):aM Tryz.prog Ay [.agg (p.cs v),vl,.int .i64 n] h (.tup [.bool (pq p l n),.int .i64 (qK p l n)]):=by
 refine reader (aiC _ _ _) (by simp only[old,olds,and_self]) ?_
 unfold UC
 have hsl:=rl.small
 unfold qK pq
 by_cases hw:gZ l n p
 ·rw[fI hw,if_pos rfl]
  by_cases hr:lU p
  ·rw[fI hr,if_pos rfl]
   (repeat' first|refine vs ?_|((with_reducible refine aA qg ?_);(refine aS (Ar p ah ah) ?_ ?_<;>intro hn))|((with_reducible refine aA sH ?_);(refine aS (QS p ah) ?_ ?_<;>intro hn))|((with_reducible refine aA jL ?_);refine aJ AL ?_)|fail)
   all_goals first
    |contradiction
    |exact pv rfl
  ·rw[gu hr,if_neg (by decide)]
   (repeat' first|refine vs ?_|((with_reducible refine aA qg ?_);(refine aS (Ar p ah ah) ?_ ?_<;>intro hn))|((with_reducible refine aA sH ?_);(refine aS (QS p ah) ?_ ?_<;>intro hn))|((with_reducible refine aA jL ?_);refine aJ AL ?_)|fail)
   all_goals first
    |contradiction
    |exact pv rfl
 ·rw[gu hw,if_neg (by decide)]
  (repeat' first|refine vs ?_|((with_reducible refine aA qg ?_);(refine aS (Ar p ah ah) ?_ ?_<;>intro hn))|fail)
  all_goals first
   |contradiction
   |exact pv rfl
end Go.Proofs.YtkdjapahgmflbaaGreat
