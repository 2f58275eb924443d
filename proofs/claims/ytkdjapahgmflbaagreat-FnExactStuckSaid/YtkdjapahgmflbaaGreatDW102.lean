import Derived.Test.YtkdjapahgmflbaaGreatDW101
set_option linter.unusedSimpArgs false
set_option linter.unusedVariables false
set_option maxHeartbeats 1000000
namespace Go.Proofs.YtkdjapahgmflbaaGreat
open Go Go.Ab
section
def TS (x0:AV):Prog:=Ln 0 x0 fun a=>.loop [.int .i64 0,.int .i64 0] (fun b=>Bn .lss (g b 1) a fun a=>.ite a (Ix 6 x0 (g b 1) fun a=>Ld 6 a fun a=>.op (.alloc iZ) fun c=>.op (.st 6 c a) fun _=>Lg 4 c fun a=>.scope (.ite a (Bn .add (g b 0) (.int .i64 1) fun a=>.leaf 0 [a]) (.leaf 0 [g b 0])) (fun a=>Bn .add (g b 1) (.int .i64 1) fun b=>.leaf 0 [g a 0,b]) fun a b=>aB a 1 (.leaf 1 b) .bad) (.leaf 2 [g b 0,g b 1])) fun a b=>aB a 1 (.leaf 1 b) (aB a 2 (.fin [.val (g b 0)]) .bad)
theorem ahQ (x0:AV):CC Tryz.prog Fv [x0] (TS x0):=cc Tryz.func245 [3,6,7,8] (fun _=>[])
def SY (x0:AV):Prog:=.loop [.int .i64 0,.int .i64 0] (fun a=>Ln 0 x0 fun b=>Bn .lss (g a 1) b fun b=>.ite b (Ix 6 x0 (g a 1) fun b=>Lg 4 b fun b=>.scope (.ite b (Bn .add (g a 0) (.int .i64 1) fun a=>.leaf 0 [a]) (.leaf 0 [g a 0])) (fun b=>Bn .add (g a 1) (.int .i64 1) fun a=>.leaf 0 [g b 0,a]) fun a b=>aB a 1 (.leaf 1 b) .bad) (.leaf 2 [g a 0,g a 1])) fun a b=>aB a 1 (.leaf 1 b) (aB a 2 (.fin [.val (g b 0)]) .bad)
theorem ahf (x0:AV):CC Tryz.prog E5 [x0] (SY x0):=cc Tryz.func410 [0,3,4] (fun _=>[])
def QA (x0 x1:AV):Prog:=.op (.alloc [.str ⟨#[]⟩,.bool false,.int .i64 0,.str ⟨#[]⟩]) fun a=>Ln 0 x0 fun b=>.loop [.int .i64 0] (fun c=>Bn .lss (g c 0) b fun b=>.ite b (Ix 4 x0 (g c 0) fun b=>Ld 4 b fun b=>.op (.alloc [.str ⟨#[]⟩,.bool false,.int .i64 0,.str ⟨#[]⟩]) fun d=>.op (.st 4 d b) fun _=>Lg 0 d fun b=>.op (.bin 1 .eql b x1) fun b=>.ite b (Ld 4 d fun b=>.op (.st 4 a b) fun _=>.fin [.cn 4 a,.val (.bool true)]) (Bn .add (g c 0) (.int .i64 1) fun a=>.leaf 0 [a])) (.leaf 2 [g c 0])) fun b c=>aB b 1 (.leaf 1 c) (aB b 2 (.op (.build [.str ⟨#[]⟩,.bool false,.int .i64 0,.str ⟨#[]⟩] []) fun b=>.op (.st 4 a b) fun _=>.fin [.cn 4 a,.val (.bool false)]) .bad)
theorem adK (x0 x1:AV):CC Tryz.prog su [x0,x1] (QA x0 x1):=cc Tryz.func250 [1,4,8,9,10] (fun _=>[])
def Qb (x0 x1:AV):Prog:=.op (.alloc [.str ⟨#[]⟩,.bool false,.int .i64 0,.str ⟨#[]⟩]) fun a=>.loop [.int .i64 0] (fun b=>Ln 0 x0 fun c=>Bn .lss (g b 0) c fun c=>.ite c (Ix 4 x0 (g b 0) fun c=>Lg 0 c fun c=>.op (.bin 1 .eql c x1) fun c=>.ite c (Ix 4 x0 (g b 0) fun b=>Ld 4 b fun b=>.op (.st 4 a b) fun _=>.fin [.cn 4 a,.val (.bool true)]) (Bn .add (g b 0) (.int .i64 1) fun a=>.leaf 0 [a])) (.leaf 2 [g b 0])) fun b c=>aB b 1 (.leaf 1 c) (aB b 2 (.op (.build [.str ⟨#[]⟩,.bool false,.int .i64 0,.str ⟨#[]⟩] []) fun b=>.op (.st 4 a b) fun _=>.fin [.cn 4 a,.val (.bool false)]) .bad)
theorem ade (x0 x1:AV):CC Tryz.prog Ad [x0,x1] (Qb x0 x1):=cc Tryz.func419 [0,1,4,6] (fun _=>[])
def Rn (x0:AV):Prog:=.loop [.int .i64 0,.int .i64 0] (fun a=>Ln 0 x0 fun b=>Bn .lss (g a 1) b fun b=>.ite b (Ix 6 x0 (g a 1) fun b=>Ld 6 b fun b=>Cl Ac [b] fun b=>Bn .gtr b (g a 0) fun b=>.scope (.ite b (Ix 6 x0 (g a 1) fun a=>Ld 6 a fun a=>Cl Ac [a] fun a=>.leaf 0 [a]) (.leaf 0 [g a 0])) (fun b=>Bn .add (g a 1) (.int .i64 1) fun a=>.leaf 0 [g b 0,a]) fun a b=>aB a 1 (.leaf 1 b) .bad) (.leaf 2 [g a 0,g a 1])) fun a b=>aB a 1 (.leaf 1 b) (aB a 2 (.fin [.val (g b 0)]) .bad)
theorem afg (x0:AV):CC Tryz.prog Em [x0] (Rn x0):=cc Tryz.func411 [0,3,4] (fun _=>[])
def SB (x0 x1:AV):Prog:=.op (.box x0) fun a=>.loop [.int .i64 0] (fun b=>Ln 0 x1 fun c=>Bn .lss (g b 0) c fun c=>.ite c (Ix 6 x1 (g b 0) fun c=>Lg 5 c fun c=>Lg 2 a fun d=>.op (.alloc [.str ⟨#[]⟩,.bool false,.int .i64 0,.str ⟨#[]⟩]) fun e=>Cl Ad [c,d] fun c=>.chk (.alloc [.str ⟨#[]⟩,.bool false,.int .i64 0,.str ⟨#[]⟩]) e (.op (.ext c 0) fun d=>.op (.ext c 1) fun c=>.op (.st 4 e d) fun _=>Gf c true 0 a fun d=>.gop c true (.bin 0 .eql d (.int .i64 4)) fun d=>Pk c d (.bool false) fun d=>Gf d true 1 e fun f=>.gop d true (.una .not f) fun f=>Pk d f (.bool false) fun d=>Gf d true 3 e fun f=>Gf d true 3 a fun i=>.gop d true (.bin 1 .eql f i) fun f=>Pk d f (.bool false) fun d=>.gop d false (.mv c) fun c=>.gop d false (.mv c) fun c=>Gf c true 0 a fun f=>.gop c true (.bin 0 .eql f (.int .i64 5)) fun f=>.gop d false (.pick c f (.bool false)) fun c=>.gop d false (.mv c) fun c=>Gf c true 1 e fun f=>.gop d false (.pick c f (.bool false)) fun c=>.gop d false (.mv c) fun c=>Gf c true 2 e fun e=>Gf c true 1 a fun a=>.gop c true (.bin 0 .geq e a) fun a=>.gop d false (.pick c a (.bool false)) fun a=>Pk d (.bool true) a fun a=>.ite a (.fin [.val (.bool true)]) (Bn .add (g b 0) (.int .i64 1) fun a=>.leaf 0 [a]))) (.leaf 2 [g b 0])) fun a b=>aB a 1 (.leaf 1 b) (aB a 2 (.fin [.val (.bool false)]) .bad)
theorem agZ (x0 x1:AV):CC Tryz.prog EX [x0,x1] (SB x0 x1):=cc Tryz.func412 [1,2,5] (fun r=>if r=4 then[(0,[]),(1,[]),(2,[]),(3,[]),(4,[]),(5,[]),(6,[]),(11,[]),(7,[11]),(8,[]),(9,[]),(10,[]),(12,[]),(13,[])] else[])
end
theorem VY {l:List Span} {i:Nat} {x:Span} (ht:l.take (i+1)=l.take i++[x]):errs (l.take (i+1))=errs (l.take i)+if x.err=true then 1 else 0:=by
 rw[ht];unfold errs;rw[List.filter_append,List.length_append]
 cases hx:x.err<;>simp[hx]
theorem XR (l:List Span) (i:Nat):errs (l.take i)≤i:=by
 have h1:=List.length_filter_le (fun x:Span=>x.err) (l.take i)
 have h2:(l.take i).length≤i:=by rw[List.length_take];omega
 unfold errs;omega
theorem agL {h:AH} {l:List Span} {v:AV} {F:List Nat} (r:au h v l F):aM Tryz.prog Fv [v] h (.int .i64 (errs l:Int)):=by
 refine reader (ahQ _) (by simp only[old]) ?_
 unfold TS
 have hsm:=r.small
 refine vs ?_
 refine aT l.length (fun i vs h1=>vs=[.int .i64 (errs (l.take i):Int),.int .i64 (i:Int)]∧i≤l.length∧Ext h h1) ⟨rfl,Nat.zero_le _,aD⟩ ?_
 rintro i vs h1 _ ⟨rfl,hi,e1⟩
 simp only[g0,g1]
 refine br (fun hlt=>?_) (fun hge=>?_)
 ·obtain⟨x,hx,-,ht⟩:=aP (show i < l.length by omega)
  have h2:=VY ht
  have h3:=XR l i
  (repeat' first|refine vs ?_|(refine br ?_ ?_<;>first|exact bx|intro _)|((with_reducible refine aY ?_);((refine ix ?_);rintro _ _ _ _ _ ⟨_,rfl,_⟩ _))|fail)
  all_goals(rename_i hq;rw[hq] at h2;simp only[if_true,if_false,Bool.false_eq_true] at h2;exact⟨by omega,by rw[h2];rfl,by omega,aD⟩)
 ·(repeat' first|refine vs ?_|fail)
  refine pi ?_
  rw[show i=l.length by omega,List.take_length]
theorem agk {h:AH} {l:List Span} {v:AV} {F:List Nat} (r:au h v l F):aM Tryz.prog E5 [v] h (.int .i64 (errs l:Int)):=by
 refine reader (ahf _) (by simp only[old]) ?_
 unfold SY
 have hsm:=r.small
 refine aT l.length (fun i vs h1=>vs=[.int .i64 (errs (l.take i):Int),.int .i64 (i:Int)]∧i≤l.length∧Ext h h1) ⟨rfl,Nat.zero_le _,aD⟩ ?_
 rintro i vs h1 _ ⟨rfl,hi,e1⟩
 simp only[g0,g1]
 refine vs ?_
 refine br (fun hlt=>?_) (fun hge=>?_)
 ·obtain⟨x,hx,-,ht⟩:=aP (show i < l.length by omega)
  have h2:=VY ht
  have h3:=XR l i
  (repeat' first|refine vs ?_|(refine br ?_ ?_<;>first|exact bx|intro _)|((with_reducible refine aY ?_);((refine ix ?_);rintro _ _ _ _ _ ⟨_,rfl,_⟩ _))|fail)
  all_goals(rename_i hq;rw[hq] at h2;simp only[if_true,if_false,Bool.false_eq_true] at h2;exact⟨by omega,by rw[h2];rfl,by omega,aD⟩)
 ·(repeat' first|refine vs ?_|fail)
  refine pi ?_
  rw[show i=l.length by omega,List.take_length]
def isKey (key:ByteArray) (a:Attr):Bool:=decide (a.key=key)
def noA:Attr:=⟨⟨#[]⟩,false,0,⟨#[]⟩⟩
def faV (l:List Attr) (key:ByteArray):Attr:=(nT l key).getD noA
theorem WO {l:List Attr} {key:ByteArray}:nT l key=l.find? (isKey key):=rfl
theorem PU {h:AH} {l:List Attr} {v:AV} {F:List Nat} {key:ByteArray} (r:au h v l F):aM Tryz.prog Ad [v,.str key] h (.tup [.agg (faV l key).cs,.bool (nT l key).isSome]):=by
 refine reader (ade _ _) (by simp only[old,olds,Attr.cs,and_self]) ?_
 unfold Qb
 have hsm:=r.small
 refine jD (aT l.length (fun i vs h1=>vs=[.int .i64 (i:Int)]∧i≤l.length∧h1=h.push ⟨[.str ⟨#[]⟩,.bool false,.int .i64 0,.str ⟨#[]⟩],0,0⟩∧nT l key=(l.drop i).find? (isKey key)) ⟨rfl,by omega,rfl,by simp[WO]⟩ ?_)
 rintro i vs h1 _ ⟨rfl,hi,rfl,hf⟩
 simp only[g0]
 refine vs ?_
 refine br (fun hlt=>?_) (fun hge=>?_)
 ·obtain⟨x,hx,hd,_⟩:=aP (show i < l.length by omega)
  rw[hd,List.find?_cons] at hf
  (repeat' first|refine vs ?_|(refine br ?_ ?_<;>first|exact bx|intro _)|((with_reducible refine aY ?_);((refine ix ?_);rintro _ _ _ _ _ ⟨rfl,rfl⟩ _))|fail)
  ·have hk:x.key=key:=by assumption
   rw[show isKey key x=true from decide_eq_true hk] at hf
   unfold faV;rw[hf]
   exact pv rfl
  ·have hk: ¬ x.key=key:=by assumption
   rw[show isKey key x=false from decide_eq_false hk] at hf
   exact⟨by omega,rfl,by omega,rfl,hf⟩
 ·have e:i=l.length:=by omega
  subst e
  simp only[List.drop_length,List.find?_nil] at hf
  (repeat' first|refine vs ?_|fail)
  unfold faV;rw[hf]
  exact pv rfl
theorem DJ {h:AH} {l:List Attr} {v:AV} {F:List Nat} {key:ByteArray} (r:au h v l F):aM Tryz.prog su [v,.str key] h (.tup [.agg (faV l key).cs,.bool (nT l key).isSome]):=by
 refine reader (adK _ _) (by simp only[old,olds,Attr.cs,and_self]) ?_
 unfold QA
 have hsm:=r.small
 refine jD ?_
 refine vs ?_
 refine aT l.length (fun i vs h1=>vs=[.int .i64 (i:Int)]∧i≤l.length∧Ext (h.push ⟨[.str ⟨#[]⟩,.bool false,.int .i64 0,.str ⟨#[]⟩],0,0⟩) h1∧nT l key=(l.drop i).find? (isKey key)) ⟨rfl,by omega,Ext.refl _,by simp[WO]⟩ ?_
 rintro i vs h1 _ ⟨rfl,hi,e1,hf⟩
 have B1:Bk h1 h.n [.str ⟨#[]⟩,.bool false,.int .i64 0,.str ⟨#[]⟩] 0:=dX e1 fD
 have n1:=e1.1;simp only[aH] at n1
 simp only[g0]
 refine br (fun hlt=>?_) (fun hge=>?_)
 ·obtain⟨x,hx,hd,_⟩:=aP (show i < l.length by omega)
  rw[hd,List.find?_cons] at hf
  (repeat' first|refine vs ?_|(refine br ?_ ?_<;>first|exact bx|intro _)|((with_reducible refine aY ?_);((refine ix ?_);rintro _ _ _ _ _ ⟨rfl,rfl⟩ _))|fail)
  ·have hk:x.key=key:=by assumption
   rw[show isKey key x=true from decide_eq_true hk] at hf
   unfold faV;rw[hf]
   exact pv rfl
  ·have hk: ¬ x.key=key:=by assumption
   rw[show isKey key x=false from decide_eq_false hk] at hf
   exact⟨by omega,rfl,by omega,aD,hf⟩
 ·have e:i=l.length:=by omega
  subst e
  simp only[List.drop_length,List.find?_nil] at hf
  (repeat' first|refine vs ?_|fail)
  unfold faV;rw[hf]
  exact pv rfl
def lT (m:Int) (s:Span):Int:=if m < lenOf s then lenOf s else m
def lng (l:List Span):Int:=l.foldl lT 0
theorem alh (s:Span):0≤lenOf s∧lenOf s≤2147483647:=mD _
theorem WL:∀ (l:List Span) (m:Int),m≤l.foldl lT m∧(∀ s∈l,lenOf s≤l.foldl lT m)∧(l.foldl lT m=m∨∃ s∈l,l.foldl lT m=lenOf s)
 |[],m=>⟨Int.le_refl _,by simp,.inl rfl⟩
 |s::l,m=>by
  obtain⟨a,b,c⟩:=WL l (lT m s)
  rw[List.foldl_cons]
  have h1:m≤lT m s∧lenOf s≤lT m s∧(lT m s=m∨lT m s=lenOf s):=by unfold lT;split<;>omega
  refine⟨by omega,fun t ht=>?_,?_⟩
  ·rcases List.mem_cons.1 ht with rfl|ht
   ·omega
   ·exact b t ht
  ·rcases c with c|⟨t,ht,c⟩
   ·rcases h1.2.2 with q|q
    ·exact .inl (by omega)
    ·exact .inr ⟨s,by simp,by omega⟩
   ·exact .inr ⟨t,by simp[ht],c⟩
theorem Yt {l:List Span} {n:Int}:(0 < l.length∧n≤lng l)↔∃ s∈l,n≤lenOf s:=by
 obtain⟨a,b,c⟩:=WL l 0
 constructor
 ·rintro⟨h1,h2⟩
  rcases c with c|⟨t,ht,c⟩
  ·match l,h1 with
   |s::l,_=>exact⟨s,by simp,by have:=alh s;unfold lng at h2;omega⟩
  ·exact⟨t,ht,by unfold lng at h2;omega⟩
 ·rintro⟨s,hs,hn⟩
  exact⟨List.length_pos_of_mem hs,by have:=b s hs;unfold lng;omega⟩
theorem akw {l:List Span} {i:Nat} {x:Span} (ht:l.take (i+1)=l.take i++[x]):lng (l.take (i+1))=lT (lng (l.take i)) x:=by
 rw[ht];unfold lng;rw[List.foldl_append];rfl
theorem ad3 {h:AH} {l:List Span} {v:AV} {F:List Nat} (r:au h v l F):aM Tryz.prog Em [v] h (.int .i64 (lng l)):=by
 refine reader (afg _) (by simp only[old]) ?_
 unfold Rn
 have hsm:=r.small
 refine aT l.length (fun i vs h1=>vs=[.int .i64 (lng (l.take i)),.int .i64 (i:Int)]∧i≤l.length∧Ext h h1) ⟨rfl,Nat.zero_le _,aD⟩ ?_
 rintro i vs h1 _ ⟨rfl,hi,e1⟩
 simp only[g0,g1]
 refine vs ?_
 refine br (fun hlt=>?_) (fun hge=>?_)
 ·obtain⟨x,hx,-,ht⟩:=aP (show i < l.length by omega)
  have h2:=akw ht
  (repeat' first|refine vs ?_|(refine br ?_ ?_<;>first|exact bx|intro _)|((with_reducible refine aA Ac ?_);refine aJ acz ?_)|((with_reducible refine aY ?_);((refine ix ?_);rintro _ _ _ _ _ ⟨_,rfl,_⟩ _))|fail)
  ·have hq:lng (l.take i) < lenOf x:=by assumption
   exact⟨by omega,by rw[h2];unfold lT;rw[if_pos hq];rfl,by omega,aD⟩
  ·have hq: ¬ lng (l.take i) < lenOf x:=by assumption
   exact⟨by omega,by rw[h2];unfold lT;rw[if_neg hq];rfl,by omega,aD⟩
 ·(repeat' first|refine vs ?_|fail)
  refine pi ?_
  rw[show i=l.length by omega,List.take_length]
def l6P (p:Pol) (s:Span):Prop:=(p.kind=4∧Gi p.key p.text s)∨(p.kind=5∧Gz p.key p.n s)
theorem af9 {h : AH} {p : Pol} {vp : AV} {l : List Span} {v : AV} {F : List Nat} (r : au h v l F) : aM Tryz.prog EX [.agg (p.cs vp), v] h (.bool (bp (∃ s ∈ l, l6P p s))) := by
  refine reader (agZ _ _) (by simp only [old]) ?_
  unfold SB
  have hsm := r.small
  refine vs ?_
  refine aT l.length (fun i vs h1 => vs = [.int .i64 (i : Int)] ∧ i ≤ l.length ∧ Ext (h.push ⟨p.cs vp, 0, 0⟩) h1 ∧ cu l (fun _ s => ¬ l6P p s) i) ⟨rfl, Nat.zero_le _, Ext.refl _, up0⟩ ?_
  rintro i vs h1 _ ⟨rfl, hi, e1, hu⟩
  have B1 : Bk h1 h.n [.int .i64 p.kind, .int .i64 p.n, .str p.key, .str p.text, vp] 0 := dX e1 fD
  simp only [g0]
  refine vs ?_
  refine br (fun hlt => ?_) (fun hge => ?_)
  · obtain ⟨x, hx, -, ht⟩ := aP (show i < l.length by omega)
    refine vs ?_
    refine bV r hx rfl ?_
    rintro bb o cs Fi aa ⟨w, rfl, rw_⟩ _
    have hm := List.mem_of_getElem? hx
    rcases hq : nT x.attrs p.key with _ | a
    · have hno : ¬ l6P p x := by
        rintro (⟨-, a, e, -⟩ | ⟨-, a, e, -⟩) <;> (rw [hq] at e; cases e)
      (repeat' first|refine vs ?_|((with_reducible refine fU ?_);refine fT aV ?_)|((with_reducible refine aA Ad ?_);(refine aJ (PU (l := x.attrs) (key := p.key) ah) ?_; unfold faV; rw [hq]; simp only [Option.isSome, Option.getD]))|fail)
      exact ⟨by omega, rfl, by omega, aD, upS hu hx hno⟩
    · obtain ⟨ak, an, ai, at_⟩ := a
      cases an
      all_goals (repeat' first|refine vs ?_|((with_reducible refine fU ?_);refine fT aV ?_)|(refine br ?_ ?_<;>first|exact bo|intro _)|((with_reducible refine aA Ad ?_);(refine aJ (PU (l := x.attrs) (key := p.key) ah) ?_; unfold faV; rw [hq]; simp only [Option.isSome, Option.getD]))|fail)
      all_goals first
        | exact pt ⟨x, hm, .inl ⟨by assumption, _, hq, by rfl, by omega⟩⟩
        | exact pt ⟨x, hm, .inr ⟨by assumption, _, hq, by rfl, by omega⟩⟩
        | (refine ⟨by omega, rfl, by omega, aD, upS hu hx ?_⟩
           rintro (⟨k1, a', e, k2, k3⟩ | ⟨k1, a', e, k2, k3⟩) <;> (rw [hq] at e; cases e; contradiction))
  · (repeat' first|refine vs ?_|fail)
    refine pf ?_
    rintro ⟨s, hs, q⟩
    rw [show i = l.length by omega] at hu
    exact fV hu s hs q
end Go.Proofs.YtkdjapahgmflbaaGreat
