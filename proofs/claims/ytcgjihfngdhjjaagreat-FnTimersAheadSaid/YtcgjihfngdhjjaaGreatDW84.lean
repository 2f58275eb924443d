import Derived.Test.YtcgjihfngdhjjaaGreatDW102
import Derived.Test.YtcgjihfngdhjjaaGreatDW83
section
set_option linter.unusedSimpArgs false
set_option linter.unusedVariables false
set_option maxHeartbeats 1000000
namespace Go.Proofs.YtcgjihfngdhjjaaGreat
open Go Go.Ab
section
def Qu (x0:AV):Prog:=.op (.box x0) fun a=>Lg 0 a fun b=>Bn .eql b (.int .i64 6) fun b=>.ite b (.fin [.val (.bool true)]) (.loop [.int .i64 0] (fun b=>Lg 4 a fun c=>Ln 0 c fun c=>Bn .lss (g b 0) c fun c=>.ite c (Lg 4 a fun a=>Ix 5 a (g b 0) fun a=>Ld 5 a fun a=>Cl uF [a] fun a=>.ite a (.fin [.val (.bool true)]) (Bn .add (g b 0) (.int .i64 1) fun a=>.leaf 0 [a])) (.leaf 2 [g b 0])) fun a b=>aC a 1 (.leaf 1 b) (aC a 2 (.fin [.val (.bool false)]) .bad))
theorem acT (x0:AV):CC Tryz.prog uF [x0] (Qu x0):=cc Tryz.func291 [1,3] (fun _=>[])
def Sy (x0 x1 x2:AV):Prog:=.op (.box x0) fun a=>Lg 0 a fun b=>Bn .eql b (.int .i64 1) fun c=>.ite c (.fin [.val (.bool true)]) (Bn .eql b (.int .i64 2) fun c=>.ite c (Cl Fz [x1] fun a=>Bn .gtr a (.int .i64 0) fun a=>.fin [.val a]) (Bn .eql b (.int .i64 3) fun c=>.ite c (Ln 0 x1 fun b=>Bn .gtr b (.int .i64 0) fun b=>.gop b true (.mv x1) fun c=>.gop b true (.fad 1 a) fun a=>.gop b true (.ld1 a) fun d=>.gop b true (.call ER [c]) fun c=>.lN b true (.ld1 a) d (.gop b true (.bin 0 .geq c d) fun a=>Pk b a (.bool false) fun a=>.fin [.val a])) (Bn .eql b (.int .i64 4) fun c=>.scope (.ite c (.leaf 0 [c]) (Bn .eql b (.int .i64 5) fun a=>.leaf 0 [a])) (fun c=>.ite (g c 0) (Ld 5 a fun a=>Cl Fq [a,x1] fun a=>.fin [.val a]) (Bn .eql b (.int .i64 6) fun c=>.ite c (Ln 0 x1 fun a=>Bn .geq x2 a fun a=>.fin [.val a]) (Bn .eql b (.int .i64 7) fun c=>.ite c (.loop [.int .i64 0] (fun b=>Lg 4 a fun c=>Ln 0 c fun c=>Bn .lss (g b 0) c fun c=>.ite c (Lg 4 a fun a=>Ix 5 a (g b 0) fun a=>Ld 5 a fun a=>Cl l8 [a,x1,x2] fun a=>.op (.una .not a) fun a=>.ite a (.fin [.val (.bool false)]) (Bn .add (g b 0) (.int .i64 1) fun a=>.leaf 0 [a])) (.leaf 3 [g b 0])) fun a b=>aC a 1 (.leaf 1 b) (aC a 3 (.fin [.val (.bool true)]) .bad)) (Bn .eql b (.int .i64 8) fun c=>.ite c (.loop [.int .i64 0] (fun b=>Lg 4 a fun c=>Ln 0 c fun c=>Bn .lss (g b 0) c fun c=>.ite c (Lg 4 a fun a=>Ix 5 a (g b 0) fun a=>Ld 5 a fun a=>Cl l8 [a,x1,x2] fun a=>.ite a (.fin [.val (.bool true)]) (Bn .add (g b 0) (.int .i64 1) fun a=>.leaf 0 [a])) (.leaf 5 [g b 0])) fun a b=>aC a 1 (.leaf 1 b) (aC a 5 (.fin [.val (.bool false)]) .bad)) (Bn .eql b (.int .i64 9) fun b=>.ite b (Lg 4 a fun b=>Ln 0 b fun b=>Bn .eql b (.int .i64 0) fun b=>Gf b false 4 a fun a=>.gop b false (.idx 5 a (.int .i64 0)) fun a=>.gop b false (.ldn 5 a) fun a=>.gop b false (.mv x1) fun c=>.gop b false (.mv x2) fun d=>.gop b false (.call l8 [a,c,d]) fun a=>.gop b false (.una .not a) fun a=>Pk b (.bool true) a fun a=>.fin [.val a]) (.fin [.val (.bool false)])))))) fun a b=>aC a 1 (.leaf 1 b) .bad)))
theorem aeR (x0 x1 x2:AV):CC Tryz.prog l8 [x0,x1,x2] (Sy x0 x1 x2):=cc Tryz.func290 [1,2,3,7,8,10,30] (fun r=>if r=7 then[(0,[]),(1,[]),(2,[]),(3,[]),(4,[]),(6,[]),(7,[]),(5,[7]),(8,[]),(9,[]),(10,[])] else[])
end
theorem Ur:∀ {l:List Pol},Da l↔∃ y∈l,rA y
 |[]=>by simp[Da]
 |p::ps=>by simp only[Da,List.mem_cons,exists_eq_or_imp,Ur (l:=ps)]
theorem LM {p:Pol}:rA p↔p.kind=6∨∃ y∈p.l,rA y:=by
 cases p with
 |mk k n s t l=>rw[←Ur];simp only[rA,Pol.kind,Pol.l]
theorem Tn {l:List Span} {n:Int}:∀ {ps:List Pol},Cx l n ps↔∀ y∈ps,jU l n y
 |[]=>by simp[Cx]
 |p::ps=>by simp only[Cx,List.mem_cons,forall_eq_or_imp,Tn (ps:=ps)]
theorem Tm {l:List Span} {n:Int}:∀ {ps:List Pol},Cw l n ps↔∃ y∈ps,jU l n y
 |[]=>by simp[Cw]
 |p::ps=>by simp only[Cw,List.mem_cons,exists_eq_or_imp,Tm (ps:=ps)]
theorem afk {l:List Span} {n:Int}:∀ {ps:List Pol},Hw l n ps↔∀ y,ps[0]? =some y→¬ jU l n y
 |[]=>by simp[Hw]
 |p::ps=>by simp[Hw]
theorem rY {l:List Span} {n:Int} {p:Pol}:jU l n p↔(p.kind=2→0 < errs l)∧(p.kind=3→∃ s∈l,p.n≤lenOf s)∧(p.kind=4→∃ s∈l,LA p.key p.text s)∧(p.kind=5→∃ s∈l,Ma p.key p.n s)∧(p.kind=6→(l.length:Int)≤n)∧(p.kind=7→∀ y∈p.l,jU l n y)∧(p.kind=8→∃ y∈p.l,jU l n y)∧(p.kind=9→∀ y,p.l[0]? =some y→¬ jU l n y)∧1≤p.kind∧p.kind≤9:=by
 cases p with
 |mk k pn s t ps=>
  rw[←Tn,←Tm,←afk]
  simp only[jU,Pol.kind,Pol.n,Pol.key,Pol.text,Pol.l,implies_true,true_and]
theorem EI (p:Pol):∀ {h:AH} {v:AV} {F:List Nat},ah h v p.l F→aP Tryz.prog uF [.agg (p.cs v)] h (.bool (bp (rA p))):=by
 refine sN (p:=fun p=>∀ {h:AH} {v:AV} {F:List Nat},ah h v p.l F→aP Tryz.prog uF [.agg (p.cs v)] h (.bool (bp (rA p)))) ?_ p
 intro p ih h v F r
 refine reader (acT _) (by simp only[old]) ?_
 unfold Qu
 have hsm:=r.small
 (repeat' first|refine vs ?_|(refine br ?_ ?_<;>first|exact bx|intro _)|fail)
 ·exact pt (LM.2 (.inl (by assumption)))
 refine aX p.l.length (fun i vs h1=>vs=[.int .i64 (i:Int)]∧i≤p.l.length∧Ext (h.push ⟨p.cs v,0,0⟩) h1∧eZ p.l (fun _ x=>¬ rA x) i) ⟨rfl,Nat.zero_le _,aI,up0⟩ ?_
 rintro i vs h1 _ ⟨rfl,hi,e1,hu⟩
 have B1:Bk h1 h.n (p.cs v) 0:=fq e1 gF
 simp only[g0]
 refine vs ?_
 refine br (fun hlt=>?_) (fun hge=>?_)
 ·obtain⟨x,hx,-,-⟩:=aU (show i < p.l.length by omega)
  have hm:=List.mem_of_getElem? hx
  refine vs ?_
  refine dw r hx rfl ?_
  intro bb o cs Fi aa q _
  rw[Pol.gD] at q
  obtain⟨w,rfl,q⟩:=q
  have EI:=@ih x hm
  (repeat' first|refine vs ?_|((with_reducible refine aG uF ?_);(refine bC (EI aB) ?_ ?_<;>intro hn))|fail)
  ·exact pt (LM.2 (.inr ⟨x,hm,hn⟩))
  ·exact⟨by omega,rfl,by omega,aI,upS hu hx hn⟩
 ·(repeat' first|refine vs ?_|fail)
  rw[show i=p.l.length by omega] at hu
  refine pf fun k=>?_
  rcases LM.1 k with k|⟨y,hy,k⟩
  ·contradiction
  ·exact jV hu y hy k
theorem rR (p:Pol) {l:List Span} {n:Int}:∀ {h:AH} {v vl:AV} {F Fl:List Nat},ah h v p.l F→ah h vl l Fl→aP Tryz.prog l8 [.agg (p.cs v),vl,.int .i64 n] h (.bool (bp (jU l n p))):=by
 refine sN (p:=fun p=>∀ {h:AH} {v vl:AV} {F Fl:List Nat},ah h v p.l F→ah h vl l Fl→aP Tryz.prog l8 [.agg (p.cs v),vl,.int .i64 n] h (.bool (bp (jU l n p)))) ?_ p
 intro p ih h v vl F Fl r rl
 refine reader (aeR _ _ _) (by simp only[old]) ?_
 unfold Sy
 have hsm:=r.small
 have hsl:=rl.small
 by_cases h7:p.kind=7
 ·(repeat' first|refine vs ?_|(refine br ?_ ?_<;>first|exact bo|intro _)|refine gS ?_|fail)
  refine aX p.l.length (fun i vs h1=>vs=[.int .i64 (i:Int)]∧i≤p.l.length∧Ext (h.push ⟨p.cs v,0,0⟩) h1∧eZ p.l (fun _ x=>jU l n x) i) ⟨rfl,Nat.zero_le _,aI,up0⟩ ?_
  rintro i vs h1 _ ⟨rfl,hi,e1,hu⟩
  have B1:Bk h1 h.n (p.cs v) 0:=fq e1 gF
  simp only[g0]
  refine vs ?_
  refine br (fun hlt=>?_) (fun hge=>?_)
  ·obtain⟨x,hx,-,-⟩:=aU (show i < p.l.length by omega)
   have hm:=List.mem_of_getElem? hx
   refine vs ?_
   refine dw r hx rfl ?_
   intro bb o cs Fi aa q _
   rw[Pol.gD] at q
   obtain⟨w,rfl,q⟩:=q
   have rR:=@ih x hm
   (repeat' first|refine vs ?_|((with_reducible refine aG l8 ?_);(refine bC (rR aB aB) ?_ ?_<;>intro hn))|fail)
   ·exact⟨by omega,rfl,by omega,aI,upS hu hx hn⟩
   ·exact pf fun k=>hn ((rY.1 k).2.2.2.2.2.1 h7 x hm)
  ·(repeat' first|refine vs ?_|fail)
   rw[show i=p.l.length by omega] at hu
   exact pt (rY.2 ⟨by omega,by omega,by omega,by omega,by omega,fun _=>jV hu,by omega,by omega,by omega,by omega⟩)
 by_cases h8:p.kind=8
 ·(repeat' first|refine vs ?_|(refine br ?_ ?_<;>first|exact bo|intro _)|refine gS ?_|fail)
  refine aX p.l.length (fun i vs h1=>vs=[.int .i64 (i:Int)]∧i≤p.l.length∧Ext (h.push ⟨p.cs v,0,0⟩) h1∧eZ p.l (fun _ x=>¬ jU l n x) i) ⟨rfl,Nat.zero_le _,aI,up0⟩ ?_
  rintro i vs h1 _ ⟨rfl,hi,e1,hu⟩
  have B1:Bk h1 h.n (p.cs v) 0:=fq e1 gF
  simp only[g0]
  refine vs ?_
  refine br (fun hlt=>?_) (fun hge=>?_)
  ·obtain⟨x,hx,-,-⟩:=aU (show i < p.l.length by omega)
   have hm:=List.mem_of_getElem? hx
   refine vs ?_
   refine dw r hx rfl ?_
   intro bb o cs Fi aa q _
   rw[Pol.gD] at q
   obtain⟨w,rfl,q⟩:=q
   have rR:=@ih x hm
   (repeat' first|refine vs ?_|((with_reducible refine aG l8 ?_);(refine bC (rR aB aB) ?_ ?_<;>intro hn))|fail)
   ·exact pt (rY.2 ⟨by omega,by omega,by omega,by omega,by omega,by omega,fun _=>⟨x,hm,hn⟩,by omega,by omega,by omega⟩)
   ·exact⟨by omega,rfl,by omega,aI,upS hu hx hn⟩
  ·(repeat' first|refine vs ?_|fail)
   rw[show i=p.l.length by omega] at hu
   refine pf fun k=>?_
   obtain⟨y,hy,q⟩:=(rY.1 k).2.2.2.2.2.2.1 h8
   exact jV hu y hy q
 by_cases h9:p.kind=9
 ·(repeat' first|refine vs ?_|(refine br ?_ ?_<;>first|exact bo|intro _)|refine gS ?_|fail)
  ·have he:p.l=[]:=List.length_eq_zero_iff.1 (by omega)
   exact pt (rY.2 ⟨by omega,by omega,by omega,by omega,by omega,by omega,by omega,fun _ y hy=>(by rw[he] at hy;cases hy),by omega,by omega⟩)
  ·obtain⟨x,hx,-,-⟩:=aU (show 0 < p.l.length by omega)
   have hm:=List.mem_of_getElem? hx
   refine Ct r (by omega) hx rfl ?_
   intro bb o cs Fi aa q _
   rw[Pol.gD] at q
   obtain⟨w,rfl,q⟩:=q
   have rR:=@ih x hm
   (repeat' first|refine vs ?_|((with_reducible refine aG l8 ?_);(refine bC (rR aB aB) ?_ ?_<;>intro hn))|fail)
   ·exact pf fun k=>(rY.1 k).2.2.2.2.2.2.2.1 h9 x hx hn
   ·exact pt (rY.2 ⟨by omega,by omega,by omega,by omega,by omega,by omega,by omega,fun _ y hy=>by rw[hx] at hy;cases hy;exact hn,by omega,by omega⟩)
 (repeat' first|refine vs ?_|(refine br ?_ ?_<;>first|exact bo|intro _)|((with_reducible refine aG Fz ?_);refine aQ (ads aB) ?_)|((with_reducible refine aG ER ?_);refine aQ (acd aB) ?_)|((with_reducible refine aG Fq ?_);(refine bC (adg (p:=p) aB) ?_ ?_<;>intro hn))|refine gS ?_|fail)
 all_goals first
  |(refine pt (rY.2 ⟨?_,?_,?_,?_,?_,by omega,by omega,by omega,by omega,by omega⟩)<;>(intro q;first|omega|exact WZ.1 ⟨by omega,by omega⟩|(obtain⟨s,hs,g|g⟩:=hn<;>first|exact⟨s,hs,g.2⟩|(exfalso;omega))))
  |(refine pf fun k=>?_;obtain⟨a2,a3,a4,a5,a6,-,-,-,a10,a11⟩:=rY.1 k;first|omega|(clear a2 a3 a4 a5 a6;omega)|(have g:=a2 (by assumption);omega)|(have g:=WZ.2 (a3 (by assumption));omega)|(obtain⟨s,hs,g⟩:=a4 (by assumption);exact hn ⟨s,hs,.inl ⟨by assumption,g⟩⟩)|(obtain⟨s,hs,g⟩:=a5 (by assumption);exact hn ⟨s,hs,.inr ⟨by assumption,g⟩⟩))
end Go.Proofs.YtcgjihfngdhjjaaGreat
end
section
set_option linter.unusedSimpArgs false
set_option linter.unusedVariables false
set_option maxHeartbeats 1000000
namespace Go.Proofs.YtcgjihfngdhjjaaGreat
open Go Go.Ab
section
def SE (x0 x1 x2:AV):Prog:=.op (.box x0) fun a=>Ld 5 a fun b=>Cl l8 [b,x1,x2] fun b=>.op (.una .not b) fun b=>.ite b (.fin [.val (.bool false),.val (.int .i64 0)]) (Ld 5 a fun a=>Cl uF [a] fun a=>.op (.una .not a) fun a=>.ite a (.fin [.val (.bool true),.val (.int .i64 0)]) (Ln 0 x1 fun a=>Cl jH [x2] fun b=>Bn .gtr a b fun b=>.scope (.ite b (Cl jH [x2] fun a=>.leaf 0 [a]) (.leaf 0 [a])) (fun a=>.fin [.val (.bool true),.val (g a 0)]) fun a b=>aC a 1 (.leaf 1 b) .bad))
theorem aeV (x0 x1 x2:AV):CC Tryz.prog Bo [x0,x1,x2] (SE x0 x1 x2):=cc Tryz.func281 [8] (fun _=>[])
end
theorem aey {h:AH} {p:Pol} {l:List Span} {n:Int} {v vl:AV} {F Fl:List Nat} (r:ah h v p.l F) (rl:ah h vl l Fl):aP Tryz.prog Bo [.agg (p.cs v),vl,.int .i64 n] h (.tup [.bool (zO p l n),.int .i64 (xw p l n)]):=by
 refine reader (aeV _ _ _) (by simp only[old,olds,and_self]) ?_
 unfold SE
 have hsl:=rl.small
 unfold xw zO
 by_cases hw:jU l n p
 ·rw[fK hw,if_pos rfl]
  by_cases hr:rA p
  ·rw[fK hr,if_pos rfl,Int.min_def]
   (repeat' first|refine vs ?_|(refine br ?_ ?_<;>first|exact bx|intro _)|((with_reducible refine aG l8 ?_);(refine bC (rR p aB aB) ?_ ?_<;>intro hn))|((with_reducible refine aG uF ?_);(refine bC (EI p aB) ?_ ?_<;>intro hn))|((with_reducible refine aG jH ?_);refine aQ Bt ?_)|fail)
   all_goals first
    |contradiction
    |exact pv (by rw[if_pos (by omega)];rfl)
    |exact pv (by rw[if_neg (by omega)];rfl)
  ·rw[gM hr,if_neg (by decide)]
   (repeat' first|refine vs ?_|(refine br ?_ ?_<;>intro _<;>try(exfalso;contradiction))|((with_reducible refine aG l8 ?_);(refine bC (rR p aB aB) ?_ ?_<;>intro hn))|((with_reducible refine aG uF ?_);(refine bC (EI p aB) ?_ ?_<;>intro hn))|((with_reducible refine aG jH ?_);refine aQ Bt ?_)|fail)
   all_goals first
    |contradiction
    |exact pv rfl
 ·rw[gM hw,if_neg (by decide)]
  (repeat' first|refine vs ?_|((with_reducible refine aG l8 ?_);(refine bC (rR p aB aB) ?_ ?_<;>intro hn))|fail)
  all_goals first
   |contradiction
   |exact pv rfl
end Go.Proofs.YtcgjihfngdhjjaaGreat
end
section
set_option linter.unusedSimpArgs false
set_option linter.unusedVariables false
set_option maxHeartbeats 2000000
namespace Go.Proofs.YtcgjihfngdhjjaaGreat
open Go Go.Ab
attribute[local irreducible] dD
section
def Oz (x0 x1:AV):Prog:=.op (.aS 3 0 [] []) fun a=>.loop [a,.int .i64 0] (fun a=>Ln 0 x0 fun b=>Bn .lss (g a 1) b fun b=>.ite b (Ix 3 x0 (g a 1) fun b=>Lg 0 b fun b=>Bn .neq b x1 fun b=>.scope (.ite b (Ix 3 x0 (g a 1) fun b=>Ld 3 b fun b=>.op (.aS 3 1 [.int .i64 0,.int .i64 0,.int .i64 0] [(0,3,b)]) fun b=>.op (.app 3 24 (g a 0) b) fun a=>.leaf 0 [a]) (.leaf 0 [g a 0])) (fun b=>Bn .add (g a 1) (.int .i64 1) fun a=>.leaf 0 [g b 0,a]) fun a b=>aC a 1 (.leaf 1 b) .bad) (.leaf 2 [g a 0,g a 1])) fun a b=>aC a 1 (.leaf 1 b) (aC a 2 (.fin [.val (g b 0)]) .bad)
theorem aaN (x0 x1:AV):CC Tryz.prog AJ [x0,x1] (Oz x0 x1):=cc Tryz.func287 [0,1,5,6] (fun _=>[])
end
theorem R3 {id:Int} {l:List Ab.Timer} {t:Ab.Timer}:without id (l++[t])=if t.id≠id then without id l++[t] else without id l:=by
 unfold without
 rw[List.filter_append]
 by_cases h:t.id=id
 ·simp[nQ,h]
 ·simp[nQ,h]
theorem KQ {id:Int} {l:List Ab.Timer}:(without id l).length≤l.length:=List.length_filter_le ..
theorem JG {h:AH} {xs:List Ab.Timer} {x0:AV} {F:List Nat} {id:Int} (r:ah h x0 xs F) (hsz:xs.length≤67108864):bq Tryz.prog AJ [x0,.int .i64 id] h (rF Ab.Timer h (without id xs)):=by
 refine aaN _ _ ?_
 unfold Oz
 (repeat' first|refine vs ?_|fail)
 have rn:ah (h.push ⟨[],3,0⟩) (.sl h.n 0 0) ([]:List Ab.Timer) [h.n]:=kX (n:=0) rfl (by decide) ⟨rfl,rfl⟩
 refine aX xs.length (fun i vs h1=>∃ va F',vs=[va,.int .i64 (i:Int)]∧i≤xs.length∧Ext h h1∧ah h1 va (without id (xs.take i)) F'∧Own h.n h1 F') ⟨_,_,rfl,by omega,aI,by simpa[without] using rn,oD (Nat.le_refl _) rfl (by simp) Own.nil⟩ ?_
 rintro i vs h1 _ ⟨va,F',rfl,hi,e,ra,oa⟩
 have he:=e.1
 simp only[g0,g1]
 have hwl:=KQ (id:=id) (l:=xs.take i)
 have htl:(xs.take i).length=i:=by simp;omega
 refine eG (r.ext e) (ig (fun hlt=>?_) (fun hge=>?_))
 ·obtain⟨t,ht,_,htk⟩:=aU (show i < xs.length by omega)
  (repeat' first|refine vs ?_|(refine br ?_ ?_<;>first|exact bx|intro _)|((with_reducible refine bB ?_);((refine ix ?_);rintro _ _ _ _ _ ⟨rfl,rfl⟩ _))|fail)
  ·refine iC (n:=h.n) (a:=t) (cs:=t.cs) (G:=[]) ra ⟨rfl,rfl⟩ (by rw[List.append_nil];exact oa) he rfl (by omega) (by omega) ?_
   intro v2 h2 F2 ek kp rv ov _
   (repeat' first|refine vs ?_|fail)
   refine⟨by omega,v2,F2,rfl,by omega,ek h e (Nat.le_refl _),?_,ov⟩
   rw[htk,R3,if_pos (by assumption)];exact rv
  ·refine⟨by omega,va,F',rfl,by omega,e,?_,oa⟩
   rw[htk,R3,if_neg fun q=>q (by assumption)];exact ra
 ·have:i=xs.length:=by omega
  subst this
  rw[List.take_length] at ra
  (repeat' first|refine vs ?_|fail)
  exact⟨rfl,va,rfl,e,F',ra,oa⟩
def wi (id:Int) (i:Nat) (l:List (List Ab.Timer)):List (List Ab.Timer):=(l.take i).map (without id)++l.drop i
section
variable{id:Int} {i:Nat} {l:List (List Ab.Timer)}
theorem X8:wi id 0 l=l:=by simp[wi]
theorem ai1 (h:l.length≤i):wi id i l=l.map (without id):=by unfold wi;rw[List.take_of_length_le h,List.drop_eq_nil_of_le h,List.append_nil]
theorem WA:(wi id i l).length=l.length:=by simp[wi];omega
theorem WB {a:List Ab.Timer} (h:l[i]? =some a):(wi id i l)[i]? =some a:=by
 have hi:=(List.getElem?_eq_some_iff.1 h).1
 unfold wi
 rw[List.getElem?_append_right (by simp;omega),List.getElem?_drop]
 have:i+(i - (List.map (without id) (List.take i l)).length)=i:=by simp;omega
 rw[this];exact h
theorem Wz {a:List Ab.Timer} (h:l[i]? =some a):(wi id i l).set i (without id a)=wi id (i+1) l:=by
 have hi:=(List.getElem?_eq_some_iff.1 h).1
 obtain⟨x,hx,hd,htk⟩:=aU hi
 rw[h] at hx;cases hx
 unfold wi
 rw[List.set_append_right _ _ (by simp;omega),htk,hd]
 have:i - (List.map (without id) (List.take i l)).length=0:=by simp;omega
 rw[this];simp
end
section
variable{P:Program} {n b0 off i:Nat} {h g:AH} {u e0 v:AV} {xs:List (List Ab.Timer)} {l':List Ab.Timer} {F Fi R f':List Nat} {Q:Nat→List AV→AH→Prop} {K:AV→Prog}
theorem UG (el:Elt (List Ab.Timer) n h b0 (off+i * Cel.w (List Ab.Timer)) [e0] u xs i R) (lt:∀ c∈F,c < h.n) (mR:∀ c∈R,c∈F) (mF:∀ c∈Fi,c∈F) (hd:∀ c∈Fi,c ∉ R) (k:Kp h g Fi) (q:ah g v l' f') (o:Own n g f') (m:∀ c∈f',c∈Fi∨h.n≤c)
  (hk:∀ h2 F',ah h2 u (xs.set i l') F'→Own n h2 F'→(∀ c∈F',c∈F∨h.n≤c)→Kp h h2 F→Kp g h2 [b0]→h2.n=g.n→(K (.tup [])).awp P h2 Q):(Prog.op (.st 1 (.ptr b0 (off+i * 1)) v) K).awp P g Q:=by
 have hkn:=k.1
 have el1:=el.kp k fun x hx hX=>hd x hX hx
 refine Elt.st0 (o:=off+i * 1) el1 q.cell rfl bV ?_
 intro h2 el2 k2 n2
 have nb:b0 ∉ f':=fun hm=>by
  rcases m b0 hm with a|a
  ·exact hd b0 a el.mem
  ·have:=el.lt;omega
 obtain⟨F',q',o',m'⟩:=el2.done (x':=l') (Fi':=f') ⟨_,rfl,aK k2 q (gJ nb)⟩ (bX k2 ⟨o,q.lt⟩ (gJ nb)).1 fun x hx hX=>by
  rcases m x hx with a|a
  ·exact hd x a hX
  ·have:=lt x (mR x hX);omega
 refine hk h2 F' q' o' (fun c hc=>?_) ((k.mono mF).trans (k2.mono fun x hx=>by rw[List.mem_singleton.1 hx];exact mR b0 el.mem)) k2 n2
 rcases m' c hc with a|a
 ·exact .inl (mR c a)
 ·exact(m c a).imp (mF c) id
end
def CJ (base:AH) (c:Nat) (now:Int) (a0 a1 a2:AV) (L0 L1:List (List Ab.Timer)) (L2:List Ab.Timer) (h:AH):Prop:=Ext base h∧base.n≤c∧∃ G0 G1 G2,Bk h c [.int .i64 now,a0,a1,a2] 0∧ah h a0 L0 G0∧ah h a1 L1 G1∧ah h a2 L2 G2∧iE base.n h c [G0,G1,G2]
section
variable{base h:AH} {c:Nat} {now:Int} {a0 a1 a2:AV} {L0 L1:List (List Ab.Timer)} {L2:List Ab.Timer}
theorem CJ.set0 (J:CJ base c now a0 a1 a2 L0 L1 L2 h) {i:Nat} {x l':List Ab.Timer} (hx:L0[i]? =some x):∃ b0 off Fi e0,a0= .sl b0 off L0.length∧At h b0 (off+i * 1) [e0]∧ah h e0 x Fi∧Own base.n h Fi∧b0 < h.n∧c ∉ Fi∧b0 ∉ Fi∧(∀ {g:AH} {v:AV} {f':List Nat} {P:Program} {Q:Nat→List AV→AH→Prop} {K:AV→Prog},Kp h g Fi→ah g v l' f'→Own base.n g f'→(∀ d∈f',d∈Fi∨h.n≤d)→(∀ h2,CJ base c now a0 a1 a2 (L0.set i l') L1 L2 h2→(K (.tup [])).awp P h2 Q)→(Prog.op (.st 1 (.ptr b0 (off+i * 1)) v) K).awp P g Q):=by
 obtain⟨e2,hbc,G0,G1,G2,bk,q0,q1,q2,sp⟩:=J
 have hc:=bk.1
 obtain⟨b0,off,E,Fi,R,ev,⟨e0,rfl,re⟩,oF,el,hd,mR,mF⟩:=q0.elt (sp.own 0 _ rfl).1.1 hx
 refine⟨b0,off,Fi,e0,ev,el.at_,re,oF.1,el.lt,fun hm=>(sp.own 0 _ rfl).2 (mF c hm),fun hm=>hd b0 hm el.mem,fun{g v f' P Q K} k q o m hk=>?_⟩
 refine UG el q0.lt mR mF hd k q o m fun h2 F' q' o' m' K' _ _=>hk h2 ?_
 have K2:Kp h h2 (c::G0):=K'.mono fun d hd=>List.mem_cons_of_mem _ hd
 have sp2:=sp.j3 (i:=0) (h':=h2) (f:=F') rfl K2 ⟨o',q'.lt⟩ (fun hm=>by
  rcases m' c hm with a|a
  ·exact(sp.own 0 _ rfl).2 a
  ·omega) fun d hd=>(m' d hd).imp id fun a hm=>by have:=sp.flat.2 d hm;omega
 refine⟨Kp.ext e2 K' fun d hd=>((sp.own 0 _ rfl).1.1.2 d hd).1,hbc,F',G1,G2,bI K' bk (sp.own 0 _ rfl).2,q',aK K' q1 fun d hd hX=>sp.dis 1 0 _ _ (by decide) rfl rfl d hd hX,aK K' q2 fun d hd hX=>sp.dis 2 0 _ _ (by decide) rfl rfl d hd hX,sp2⟩
theorem CJ.set1 (J:CJ base c now a0 a1 a2 L0 L1 L2 h) {i:Nat} {x l':List Ab.Timer} (hx:L1[i]? =some x):∃ b0 off Fi e0,a1= .sl b0 off L1.length∧At h b0 (off+i * 1) [e0]∧ah h e0 x Fi∧Own base.n h Fi∧b0 < h.n∧c ∉ Fi∧b0 ∉ Fi∧(∀ {g:AH} {v:AV} {f':List Nat} {P:Program} {Q:Nat→List AV→AH→Prop} {K:AV→Prog},Kp h g Fi→ah g v l' f'→Own base.n g f'→(∀ d∈f',d∈Fi∨h.n≤d)→(∀ h2,CJ base c now a0 a1 a2 L0 (L1.set i l') L2 h2→(K (.tup [])).awp P h2 Q)→(Prog.op (.st 1 (.ptr b0 (off+i * 1)) v) K).awp P g Q):=by
 obtain⟨e2,hbc,G0,G1,G2,bk,q0,q1,q2,sp⟩:=J
 have hc:=bk.1
 obtain⟨b0,off,E,Fi,R,ev,⟨e0,rfl,re⟩,oF,el,hd,mR,mF⟩:=q1.elt (sp.own 1 _ rfl).1.1 hx
 refine⟨b0,off,Fi,e0,ev,el.at_,re,oF.1,el.lt,fun hm=>(sp.own 1 _ rfl).2 (mF c hm),fun hm=>hd b0 hm el.mem,fun{g v f' P Q K} k q o m hk=>?_⟩
 refine UG el q1.lt mR mF hd k q o m fun h2 F' q' o' m' K' _ _=>hk h2 ?_
 have K2:Kp h h2 (c::G1):=K'.mono fun d hd=>List.mem_cons_of_mem _ hd
 have sp2:=sp.j3 (i:=1) (h':=h2) (f:=F') rfl K2 ⟨o',q'.lt⟩ (fun hm=>by
  rcases m' c hm with a|a
  ·exact(sp.own 1 _ rfl).2 a
  ·omega) fun d hd=>(m' d hd).imp id fun a hm=>by have:=sp.flat.2 d hm;omega
 refine⟨Kp.ext e2 K' fun d hd=>((sp.own 1 _ rfl).1.1.2 d hd).1,hbc,G0,F',G2,bI K' bk (sp.own 1 _ rfl).2,aK K' q0 fun d hd hX=>sp.dis 0 1 _ _ (by decide) rfl rfl d hd hX,q',aK K' q2 fun d hd hX=>sp.dis 2 1 _ _ (by decide) rfl rfl d hd hX,sp2⟩
end
end Go.Proofs.YtcgjihfngdhjjaaGreat
end
