import Derived.Test.YtekfdoknfcedpaaGreatDW101
set_option linter.unusedSimpArgs false
set_option linter.unusedVariables false
set_option maxHeartbeats 1000000
namespace Go.Proofs.YtekfdoknfcedpaaGreat
open Go Go.Ab
section
def Rc (x0:AV):Prog:=Ln 0 x0 fun a=>.loop [.int .i64 0,.int .i64 0] (fun b=>Bn .lss (g b 1) a fun a=>.ite a (Ix 6 x0 (g b 1) fun a=>Ld 6 a fun a=>.op (.alloc iT) fun c=>.op (.st 6 c a) fun _=>Lg 4 c fun a=>.scope (.ite a (Bn .add (g b 0) (.int .i64 1) fun a=>.leaf 0 [a]) (.leaf 0 [g b 0])) (fun a=>Bn .add (g b 1) (.int .i64 1) fun b=>.leaf 0 [g a 0,b]) fun a b=>aA a 1 (.leaf 1 b) .bad) (.leaf 2 [g b 0,g b 1])) fun a b=>aA a 1 (.leaf 1 b) (aA a 2 (.fin [.val (g b 0)]) .bad)
theorem aie (x0:AV):CC Tryz.prog Cy [x0] (Rc x0):=cc Tryz.func282 [3,6,7,8] (fun _=>[])
def Qz (x0:AV):Prog:=.loop [.int .i64 0,.int .i64 0] (fun a=>Ln 0 x0 fun b=>Bn .lss (g a 1) b fun b=>.ite b (Ix 6 x0 (g a 1) fun b=>Lg 4 b fun b=>.scope (.ite b (Bn .add (g a 0) (.int .i64 1) fun a=>.leaf 0 [a]) (.leaf 0 [g a 0])) (fun b=>Bn .add (g a 1) (.int .i64 1) fun a=>.leaf 0 [g b 0,a]) fun a b=>aA a 1 (.leaf 1 b) .bad) (.leaf 2 [g a 0,g a 1])) fun a b=>aA a 1 (.leaf 1 b) (aA a 2 (.fin [.val (g b 0)]) .bad)
theorem ahE (x0:AV):CC Tryz.prog Cm [x0] (Qz x0):=cc Tryz.func311 [0,3,4] (fun _=>[])
def Oc (x0 x1:AV):Prog:=.op (.alloc [.str ⟨#[]⟩,.bool false,.int .i64 0,.str ⟨#[]⟩]) fun a=>Ln 0 x0 fun b=>.loop [.int .i64 0] (fun c=>Bn .lss (g c 0) b fun b=>.ite b (Ix 4 x0 (g c 0) fun b=>Ld 4 b fun b=>.op (.alloc [.str ⟨#[]⟩,.bool false,.int .i64 0,.str ⟨#[]⟩]) fun d=>.op (.st 4 d b) fun _=>Lg 0 d fun b=>.op (.bin 1 .eql b x1) fun b=>.ite b (Ld 4 d fun b=>.op (.st 4 a b) fun _=>.fin [.cn 4 a,.val (.bool true)]) (Bn .add (g c 0) (.int .i64 1) fun a=>.leaf 0 [a])) (.leaf 2 [g c 0])) fun b c=>aA b 1 (.leaf 1 c) (aA b 2 (.op (.build [.str ⟨#[]⟩,.bool false,.int .i64 0,.str ⟨#[]⟩] []) fun b=>.op (.st 4 a b) fun _=>.fin [.cn 4 a,.val (.bool false)]) .bad)
theorem aeh (x0 x1:AV):CC Tryz.prog nY [x0,x1] (Oc x0 x1):=cc Tryz.func287 [1,4,8,9,10] (fun _=>[])
def NC (x0 x1:AV):Prog:=.op (.alloc [.str ⟨#[]⟩,.bool false,.int .i64 0,.str ⟨#[]⟩]) fun a=>.loop [.int .i64 0] (fun b=>Ln 0 x0 fun c=>Bn .lss (g b 0) c fun c=>.ite c (Ix 4 x0 (g b 0) fun c=>Lg 0 c fun c=>.op (.bin 1 .eql c x1) fun c=>.ite c (Ix 4 x0 (g b 0) fun b=>Ld 4 b fun b=>.op (.st 4 a b) fun _=>.fin [.cn 4 a,.val (.bool true)]) (Bn .add (g b 0) (.int .i64 1) fun a=>.leaf 0 [a])) (.leaf 2 [g b 0])) fun b c=>aA b 1 (.leaf 1 c) (aA b 2 (.op (.build [.str ⟨#[]⟩,.bool false,.int .i64 0,.str ⟨#[]⟩] []) fun b=>.op (.st 4 a b) fun _=>.fin [.cn 4 a,.val (.bool false)]) .bad)
theorem adL (x0 x1:AV):CC Tryz.prog wG [x0,x1] (NC x0 x1):=cc Tryz.func331 [0,1,4,6] (fun _=>[])
def OY (x0:AV):Prog:=.loop [.int .i64 0,.int .i64 0] (fun a=>Ln 0 x0 fun b=>Bn .lss (g a 1) b fun b=>.ite b (Ix 6 x0 (g a 1) fun b=>Ld 6 b fun b=>Cl wF [b] fun b=>Bn .gtr b (g a 0) fun b=>.scope (.ite b (Ix 6 x0 (g a 1) fun a=>Ld 6 a fun a=>Cl wF [a] fun a=>.leaf 0 [a]) (.leaf 0 [g a 0])) (fun b=>Bn .add (g a 1) (.int .i64 1) fun a=>.leaf 0 [g b 0,a]) fun a b=>aA a 1 (.leaf 1 b) .bad) (.leaf 2 [g a 0,g a 1])) fun a b=>aA a 1 (.leaf 1 b) (aA a 2 (.fin [.val (g b 0)]) .bad)
theorem afG (x0:AV):CC Tryz.prog Bo [x0] (OY x0):=cc Tryz.func312 [0,3,4] (fun _=>[])
def Ql (x0 x1:AV):Prog:=.op (.box x0) fun a=>.loop [.int .i64 0] (fun b=>Ln 0 x1 fun c=>Bn .lss (g b 0) c fun c=>.ite c (Ix 6 x1 (g b 0) fun c=>Lg 5 c fun c=>Lg 2 a fun d=>.op (.alloc [.str ⟨#[]⟩,.bool false,.int .i64 0,.str ⟨#[]⟩]) fun e=>Cl wG [c,d] fun c=>.chk (.alloc [.str ⟨#[]⟩,.bool false,.int .i64 0,.str ⟨#[]⟩]) e (.op (.ext c 0) fun d=>.op (.ext c 1) fun c=>.op (.st 4 e d) fun _=>Gf c true 0 a fun d=>.gop c true (.bin 0 .eql d (.int .i64 4)) fun d=>Pk c d (.bool false) fun d=>Gf d true 1 e fun f=>.gop d true (.una .not f) fun f=>Pk d f (.bool false) fun d=>Gf d true 3 e fun f=>Gf d true 3 a fun i=>.gop d true (.bin 1 .eql f i) fun f=>Pk d f (.bool false) fun d=>.gop d false (.mv c) fun c=>.gop d false (.mv c) fun c=>Gf c true 0 a fun f=>.gop c true (.bin 0 .eql f (.int .i64 5)) fun f=>.gop d false (.pick c f (.bool false)) fun c=>.gop d false (.mv c) fun c=>Gf c true 1 e fun f=>.gop d false (.pick c f (.bool false)) fun c=>.gop d false (.mv c) fun c=>Gf c true 2 e fun e=>Gf c true 1 a fun a=>.gop c true (.bin 0 .geq e a) fun a=>.gop d false (.pick c a (.bool false)) fun a=>Pk d (.bool true) a fun a=>.ite a (.fin [.val (.bool true)]) (Bn .add (g b 0) (.int .i64 1) fun a=>.leaf 0 [a]))) (.leaf 2 [g b 0])) fun a b=>aA a 1 (.leaf 1 b) (aA a 2 (.fin [.val (.bool false)]) .bad)
theorem ahp (x0 x1:AV):CC Tryz.prog Ch [x0,x1] (Ql x0 x1):=cc Tryz.func313 [1,2,5] (fun r=>if r=4 then[(0,[]),(1,[]),(2,[]),(3,[]),(4,[]),(5,[]),(6,[]),(11,[]),(7,[11]),(8,[]),(9,[]),(10,[]),(12,[]),(13,[])] else[])
end
theorem Tg {l:List Span} {i:Nat} {x:Span} (ht:l.take (i+1)=l.take i++[x]):errs (l.take (i+1))=errs (l.take i)+if x.err=true then 1 else 0:=by
 rw[ht];unfold errs;rw[List.filter_append,List.length_append]
 cases hx:x.err<;>simp[hx]
theorem UQ (l:List Span) (i:Nat):errs (l.take i)≤i:=by
 have h1:=List.length_filter_le (fun x:Span=>x.err) (l.take i)
 have h2:(l.take i).length≤i:=by rw[List.length_take];omega
 unfold errs;omega
theorem ahc {h:AH} {l:List Span} {v:AV} {F:List Nat} (r:au h v l F):aN Tryz.prog Cy [v] h (.int .i64 (errs l:Int)):=by
 refine reader (aie _) (by simp only[old]) ?_
 unfold Rc
 have hsm:=r.small
 refine vs ?_
 refine aY l.length (fun i vs h1=>vs=[.int .i64 (errs (l.take i):Int),.int .i64 (i:Int)]∧i≤l.length∧Ext h h1) ⟨rfl,Nat.zero_le _,aG⟩ ?_
 rintro i vs h1 _ ⟨rfl,hi,e1⟩
 simp only[g0,g1]
 refine br (fun hlt=>?_) (fun hge=>?_)
 ·obtain⟨x,hx,-,ht⟩:=aR (show i < l.length by omega)
  have h2:=Tg ht
  have h3:=UQ l i
  (repeat' first|refine vs ?_|(refine br ?_ ?_<;>first|exact bx|intro _)|((with_reducible refine aC ?_);((first|refine ix ?_|refine ixi ?_|(refine ixg ?_;intro _ _)|(refine aL ?_;intro _ _));first|rintro _ _ _ _ _ ⟨rfl,rfl⟩ _|rintro _ _ _ _ _ ⟨_,rfl,_⟩ _|rintro _ _ _ _ _ ⟨_,_,_,_,rfl,rfl,_,_⟩ _|intro _ _ _ _ _ _ _))|(refine sx ?_;intro _ _)|((with_reducible refine aJ ?_);simp only[g0,g1,g2]))
  all_goals(rename_i hq;rw[hq] at h2;simp only[if_true,if_false,Bool.false_eq_true] at h2;exact⟨by omega,by rw[h2];first|rfl|simp,by omega,aG⟩)
 ·(repeat' first|refine vs ?_|(refine br ?_ ?_<;>first|exact bx|intro _)|((with_reducible refine aC ?_);((first|refine ix ?_|refine ixi ?_|(refine ixg ?_;intro _ _)|(refine aL ?_;intro _ _));first|rintro _ _ _ _ _ ⟨rfl,rfl⟩ _|rintro _ _ _ _ _ ⟨_,rfl,_⟩ _|rintro _ _ _ _ _ ⟨_,_,_,_,rfl,rfl,_,_⟩ _|intro _ _ _ _ _ _ _))|(refine sx ?_;intro _ _)|((with_reducible refine aJ ?_);simp only[g0,g1,g2]))
  refine pi ?_
  rw[show i=l.length by omega,List.take_length]
theorem agO {h:AH} {l:List Span} {v:AV} {F:List Nat} (r:au h v l F):aN Tryz.prog Cm [v] h (.int .i64 (errs l:Int)):=by
 refine reader (ahE _) (by simp only[old]) ?_
 unfold Qz
 have hsm:=r.small
 refine aY l.length (fun i vs h1=>vs=[.int .i64 (errs (l.take i):Int),.int .i64 (i:Int)]∧i≤l.length∧Ext h h1) ⟨rfl,Nat.zero_le _,aG⟩ ?_
 rintro i vs h1 _ ⟨rfl,hi,e1⟩
 simp only[g0,g1]
 refine vs ?_
 refine br (fun hlt=>?_) (fun hge=>?_)
 ·obtain⟨x,hx,-,ht⟩:=aR (show i < l.length by omega)
  have h2:=Tg ht
  have h3:=UQ l i
  (repeat' first|refine vs ?_|(refine br ?_ ?_<;>first|exact bx|intro _)|((with_reducible refine aC ?_);((first|refine ix ?_|refine ixi ?_|(refine ixg ?_;intro _ _)|(refine aL ?_;intro _ _));first|rintro _ _ _ _ _ ⟨rfl,rfl⟩ _|rintro _ _ _ _ _ ⟨_,rfl,_⟩ _|rintro _ _ _ _ _ ⟨_,_,_,_,rfl,rfl,_,_⟩ _|intro _ _ _ _ _ _ _))|(refine sx ?_;intro _ _)|((with_reducible refine aJ ?_);simp only[g0,g1,g2]))
  all_goals(rename_i hq;rw[hq] at h2;simp only[if_true,if_false,Bool.false_eq_true] at h2;exact⟨by omega,by rw[h2];first|rfl|simp,by omega,aG⟩)
 ·(repeat' first|refine vs ?_|(refine br ?_ ?_<;>first|exact bx|intro _)|((with_reducible refine aC ?_);((first|refine ix ?_|refine ixi ?_|(refine ixg ?_;intro _ _)|(refine aL ?_;intro _ _));first|rintro _ _ _ _ _ ⟨rfl,rfl⟩ _|rintro _ _ _ _ _ ⟨_,rfl,_⟩ _|rintro _ _ _ _ _ ⟨_,_,_,_,rfl,rfl,_,_⟩ _|intro _ _ _ _ _ _ _))|(refine sx ?_;intro _ _)|((with_reducible refine aJ ?_);simp only[g0,g1,g2]))
  refine pi ?_
  rw[show i=l.length by omega,List.take_length]
def isKey (key:ByteArray) (a:Attr):Bool:=decide (a.key=key)
def noA:Attr:=⟨⟨#[]⟩,false,0,⟨#[]⟩⟩
def faV (l:List Attr) (key:ByteArray):Attr:=(kY l key).getD noA
theorem TS {l:List Attr} {key:ByteArray}:kY l key=l.find? (isKey key):=rfl
theorem Nr {h:AH} {l:List Attr} {v:AV} {F:List Nat} {key:ByteArray} (r:au h v l F):aN Tryz.prog wG [v,.str key] h (.tup [.agg (faV l key).cs,.bool (kY l key).isSome]):=by
 refine reader (adL _ _) (by simp only[old,olds,Attr.cs,and_self]) ?_
 unfold NC
 have hsm:=r.small
 refine jI (aY l.length (fun i vs h1=>vs=[.int .i64 (i:Int)]∧i≤l.length∧h1=h.push ⟨[.str ⟨#[]⟩,.bool false,.int .i64 0,.str ⟨#[]⟩],0,0⟩∧kY l key=(l.drop i).find? (isKey key)) ⟨rfl,by omega,rfl,by simp[TS]⟩ ?_)
 rintro i vs h1 _ ⟨rfl,hi,rfl,hf⟩
 simp only[g0]
 refine vs ?_
 refine br (fun hlt=>?_) (fun hge=>?_)
 ·obtain⟨x,hx,hd,_⟩:=aR (show i < l.length by omega)
  rw[hd,List.find?_cons] at hf
  (repeat' first|refine vs ?_|(refine br ?_ ?_<;>first|exact bx|intro _)|((with_reducible refine aC ?_);((first|refine ix ?_|refine ixi ?_|(refine ixg ?_;intro _ _)|(refine aL ?_;intro _ _));first|rintro _ _ _ _ _ ⟨rfl,rfl⟩ _|rintro _ _ _ _ _ ⟨_,rfl,_⟩ _|rintro _ _ _ _ _ ⟨_,_,_,_,rfl,rfl,_,_⟩ _|intro _ _ _ _ _ _ _))|(refine sx ?_;intro _ _)|((with_reducible refine aJ ?_);simp only[g0,g1,g2]))
  ·have hk:x.key=key:=by assumption
   rw[show isKey key x=true from decide_eq_true hk] at hf
   unfold faV;rw[hf]
   exact pv rfl
  ·have hk: ¬ x.key=key:=by assumption
   rw[show isKey key x=false from decide_eq_false hk] at hf
   exact⟨by omega,rfl,by omega,rfl,hf⟩
 ·have e:i=l.length:=by omega
  subst e
  simp only[List.drop_length,List.find?_nil] at hf
  (repeat' first|refine vs ?_|(refine br ?_ ?_<;>first|exact bx|intro _)|((with_reducible refine aC ?_);((first|refine ix ?_|refine ixi ?_|(refine ixg ?_;intro _ _)|(refine aL ?_;intro _ _));first|rintro _ _ _ _ _ ⟨rfl,rfl⟩ _|rintro _ _ _ _ _ ⟨_,rfl,_⟩ _|rintro _ _ _ _ _ ⟨_,_,_,_,rfl,rfl,_,_⟩ _|intro _ _ _ _ _ _ _))|(refine sx ?_;intro _ _)|((with_reducible refine aJ ?_);simp only[g0,g1,g2]))
  unfold faV;rw[hf]
  exact pv rfl
theorem Aq {h:AH} {l:List Attr} {v:AV} {F:List Nat} {key:ByteArray} (r:au h v l F):aN Tryz.prog nY [v,.str key] h (.tup [.agg (faV l key).cs,.bool (kY l key).isSome]):=by
 refine reader (aeh _ _) (by simp only[old,olds,Attr.cs,and_self]) ?_
 unfold Oc
 have hsm:=r.small
 refine jI ?_
 refine vs ?_
 refine aY l.length (fun i vs h1=>vs=[.int .i64 (i:Int)]∧i≤l.length∧Ext (h.push ⟨[.str ⟨#[]⟩,.bool false,.int .i64 0,.str ⟨#[]⟩],0,0⟩) h1∧kY l key=(l.drop i).find? (isKey key)) ⟨rfl,by omega,Ext.refl _,by simp[TS]⟩ ?_
 rintro i vs h1 _ ⟨rfl,hi,e1,hf⟩
 have B1:Bk h1 h.n [.str ⟨#[]⟩,.bool false,.int .i64 0,.str ⟨#[]⟩] 0:=fK e1 iE
 have n1:=e1.1;simp only[aO] at n1
 simp only[g0]
 refine br (fun hlt=>?_) (fun hge=>?_)
 ·obtain⟨x,hx,hd,_⟩:=aR (show i < l.length by omega)
  rw[hd,List.find?_cons] at hf
  (repeat' first|refine vs ?_|(refine br ?_ ?_<;>first|exact bx|intro _)|((with_reducible refine aC ?_);((first|refine ix ?_|refine ixi ?_|(refine ixg ?_;intro _ _)|(refine aL ?_;intro _ _));first|rintro _ _ _ _ _ ⟨rfl,rfl⟩ _|rintro _ _ _ _ _ ⟨_,rfl,_⟩ _|rintro _ _ _ _ _ ⟨_,_,_,_,rfl,rfl,_,_⟩ _|intro _ _ _ _ _ _ _))|(refine sx ?_;intro _ _)|((with_reducible refine aJ ?_);simp only[g0,g1,g2]))
  ·have hk:x.key=key:=by assumption
   rw[show isKey key x=true from decide_eq_true hk] at hf
   unfold faV;rw[hf]
   exact pv rfl
  ·have hk: ¬ x.key=key:=by assumption
   rw[show isKey key x=false from decide_eq_false hk] at hf
   exact⟨by omega,rfl,by omega,aG,hf⟩
 ·have e:i=l.length:=by omega
  subst e
  simp only[List.drop_length,List.find?_nil] at hf
  (repeat' first|refine vs ?_|(refine br ?_ ?_<;>first|exact bx|intro _)|((with_reducible refine aC ?_);((first|refine ix ?_|refine ixi ?_|(refine ixg ?_;intro _ _)|(refine aL ?_;intro _ _));first|rintro _ _ _ _ _ ⟨rfl,rfl⟩ _|rintro _ _ _ _ _ ⟨_,rfl,_⟩ _|rintro _ _ _ _ _ ⟨_,_,_,_,rfl,rfl,_,_⟩ _|intro _ _ _ _ _ _ _))|(refine sx ?_;intro _ _)|((with_reducible refine aJ ?_);simp only[g0,g1,g2]))
  unfold faV;rw[hf]
  exact pv rfl
def jD (m:Int) (s:Span):Int:=if m < lenOf s then lenOf s else m
def lng (l:List Span):Int:=l.foldl jD 0
theorem alh (s:Span):0≤lenOf s∧lenOf s≤2147483647:=jS _
theorem TR:∀ (l:List Span) (m:Int),m≤l.foldl jD m∧(∀ s∈l,lenOf s≤l.foldl jD m)∧(l.foldl jD m=m∨∃ s∈l,l.foldl jD m=lenOf s)
 |[],m=>⟨Int.le_refl _,by simp,.inl rfl⟩
 |s::l,m=>by
  obtain⟨a,b,c⟩:=TR l (jD m s)
  rw[List.foldl_cons]
  have h1:m≤jD m s∧lenOf s≤jD m s∧(jD m s=m∨jD m s=lenOf s):=by unfold jD;split<;>omega
  refine⟨by omega,fun t ht=>?_,?_⟩
  ·rcases List.mem_cons.1 ht with rfl|ht
   ·omega
   ·exact b t ht
  ·rcases c with c|⟨t,ht,c⟩
   ·rcases h1.2.2 with q|q
    ·exact .inl (by omega)
    ·exact .inr ⟨s,by simp,by omega⟩
   ·exact .inr ⟨t,by simp[ht],c⟩
theorem Vt {l:List Span} {n:Int}:(0 < l.length∧n≤lng l)↔∃ s∈l,n≤lenOf s:=by
 obtain⟨a,b,c⟩:=TR l 0
 constructor
 ·rintro⟨h1,h2⟩
  rcases c with c|⟨t,ht,c⟩
  ·match l,h1 with
   |s::l,_=>exact⟨s,by simp,by have:=alh s;unfold lng at h2;omega⟩
  ·exact⟨t,ht,by unfold lng at h2;omega⟩
 ·rintro⟨s,hs,hn⟩
  exact⟨List.length_pos_of_mem hs,by have:=b s hs;unfold lng;omega⟩
theorem aku {l:List Span} {i:Nat} {x:Span} (ht:l.take (i+1)=l.take i++[x]):lng (l.take (i+1))=jD (lng (l.take i)) x:=by
 rw[ht];unfold lng;rw[List.foldl_append];rfl
theorem aex {h:AH} {l:List Span} {v:AV} {F:List Nat} (r:au h v l F):aN Tryz.prog Bo [v] h (.int .i64 (lng l)):=by
 refine reader (afG _) (by simp only[old]) ?_
 unfold OY
 have hsm:=r.small
 refine aY l.length (fun i vs h1=>vs=[.int .i64 (lng (l.take i)),.int .i64 (i:Int)]∧i≤l.length∧Ext h h1) ⟨rfl,Nat.zero_le _,aG⟩ ?_
 rintro i vs h1 _ ⟨rfl,hi,e1⟩
 simp only[g0,g1]
 refine vs ?_
 refine br (fun hlt=>?_) (fun hge=>?_)
 ·obtain⟨x,hx,-,ht⟩:=aR (show i < l.length by omega)
  have h2:=aku ht
  (repeat' first|refine vs ?_|(refine br ?_ ?_<;>first|exact bx|intro _)|((with_reducible refine aB wF ?_);refine aQ ac5 ?_)|((with_reducible refine aC ?_);((first|refine ix ?_|refine ixi ?_|(refine ixg ?_;intro _ _)|(refine aL ?_;intro _ _));first|rintro _ _ _ _ _ ⟨rfl,rfl⟩ _|rintro _ _ _ _ _ ⟨_,rfl,_⟩ _|rintro _ _ _ _ _ ⟨_,_,_,_,rfl,rfl,_,_⟩ _|intro _ _ _ _ _ _ _))|(refine sx ?_;intro _ _)|((with_reducible refine aJ ?_);simp only[g0,g1,g2]))
  ·have hq:lng (l.take i) < lenOf x:=by assumption
   exact⟨by omega,by rw[h2];unfold jD;rw[if_pos hq];rfl,by omega,aG⟩
  ·have hq: ¬ lng (l.take i) < lenOf x:=by assumption
   exact⟨by omega,by rw[h2];unfold jD;rw[if_neg hq];rfl,by omega,aG⟩
 ·(repeat' first|refine vs ?_|(refine br ?_ ?_<;>first|exact bx|intro _)|((with_reducible refine aC ?_);((first|refine ix ?_|refine ixi ?_|(refine ixg ?_;intro _ _)|(refine aL ?_;intro _ _));first|rintro _ _ _ _ _ ⟨rfl,rfl⟩ _|rintro _ _ _ _ _ ⟨_,rfl,_⟩ _|rintro _ _ _ _ _ ⟨_,_,_,_,rfl,rfl,_,_⟩ _|intro _ _ _ _ _ _ _))|(refine sx ?_;intro _ _)|((with_reducible refine aJ ?_);simp only[g0,g1,g2]))
  refine pi ?_
  rw[show i=l.length by omega,List.take_length]
def l6P (p:Pol) (s:Span):Prop:=(p.kind=4∧DJ p.key p.text s)∨(p.kind=5∧Ed p.key p.n s)
theorem agE {h : AH} {p : Pol} {vp : AV} {l : List Span} {v : AV} {F : List Nat} (r : au h v l F) : aN Tryz.prog Ch [.agg (p.cs vp), v] h (.bool (bp (∃ s ∈ l, l6P p s))) := by
  refine reader (ahp _ _) (by simp only [old]) ?_
  unfold Ql
  have hsm := r.small
  refine vs ?_
  refine aY l.length (fun i vs h1 => vs = [.int .i64 (i : Int)] ∧ i ≤ l.length ∧ Ext (h.push ⟨p.cs vp, 0, 0⟩) h1 ∧ bW l (fun _ s => ¬ l6P p s) i) ⟨rfl, Nat.zero_le _, Ext.refl _, up0⟩ ?_
  rintro i vs h1 _ ⟨rfl, hi, e1, hu⟩
  have B1 : Bk h1 h.n [.int .i64 p.kind, .int .i64 p.n, .str p.key, .str p.text, vp] 0 := fK e1 iE
  simp only [g0]
  refine vs ?_
  refine br (fun hlt => ?_) (fun hge => ?_)
  · obtain ⟨x, hx, -, ht⟩ := aR (show i < l.length by omega)
    refine vs ?_
    refine bS r hx rfl ?_
    rintro bb o cs Fi aa ⟨w, rfl, rw_⟩ _
    have hm := List.mem_of_getElem? hx
    rcases hq : kY x.attrs p.key with _ | a
    · have hno : ¬ l6P p x := by
        rintro (⟨-, a, e, -⟩ | ⟨-, a, e, -⟩) <;> (rw [hq] at e; cases e)
      (repeat' first|refine vs ?_|((with_reducible refine pG ?_);refine pq bA ?_)|(refine br ?_ ?_<;>first|exact bx|intro _)|((with_reducible refine aB wG ?_);(refine aQ (Nr (l := x.attrs) (key := p.key) ah) ?_; unfold faV; rw [hq]; simp only [Option.isSome, Option.getD]))|((with_reducible refine aC ?_);((first|refine ix ?_|refine ixi ?_|(refine ixg ?_;intro _ _)|(refine aL ?_;intro _ _));first|rintro _ _ _ _ _ ⟨rfl,rfl⟩ _|rintro _ _ _ _ _ ⟨_,rfl,_⟩ _|rintro _ _ _ _ _ ⟨_,_,_,_,rfl,rfl,_,_⟩ _|intro _ _ _ _ _ _ _))|(refine sx ?_;intro _ _)|((with_reducible refine aJ ?_);simp only [g0,g1,g2]))
      exact ⟨by omega, rfl, by omega, aG, upS hu hx hno⟩
    · obtain ⟨ak, an, ai, at_⟩ := a
      cases an
      all_goals (repeat' first|refine vs ?_|((with_reducible refine pG ?_);refine pq bA ?_)|(refine br ?_ ?_<;>first|exact bx|intro _)|((with_reducible refine aB wG ?_);(refine aQ (Nr (l := x.attrs) (key := p.key) ah) ?_; unfold faV; rw [hq]; simp only [Option.isSome, Option.getD]))|((with_reducible refine aC ?_);((first|refine ix ?_|refine ixi ?_|(refine ixg ?_;intro _ _)|(refine aL ?_;intro _ _));first|rintro _ _ _ _ _ ⟨rfl,rfl⟩ _|rintro _ _ _ _ _ ⟨_,rfl,_⟩ _|rintro _ _ _ _ _ ⟨_,_,_,_,rfl,rfl,_,_⟩ _|intro _ _ _ _ _ _ _))|(refine sx ?_;intro _ _)|((with_reducible refine aJ ?_);simp only [g0,g1,g2]))
      all_goals first
        | exact pt ⟨x, hm, .inl ⟨by assumption, _, hq, by first | rfl | assumption, by first | omega | assumption⟩⟩
        | exact pt ⟨x, hm, .inr ⟨by assumption, _, hq, by first | rfl | assumption, by first | omega | assumption⟩⟩
        | (refine ⟨by omega, rfl, by omega, aG, upS hu hx ?_⟩
           rintro (⟨k1, a', e, k2, k3⟩ | ⟨k1, a', e, k2, k3⟩) <;> (rw [hq] at e; cases e; first | contradiction | omega | simp_all))
  · (repeat' first|refine vs ?_|(refine br ?_ ?_<;>first|exact bx|intro _)|((with_reducible refine aC ?_);((first|refine ix ?_|refine ixi ?_|(refine ixg ?_;intro _ _)|(refine aL ?_;intro _ _));first|rintro _ _ _ _ _ ⟨rfl,rfl⟩ _|rintro _ _ _ _ _ ⟨_,rfl,_⟩ _|rintro _ _ _ _ _ ⟨_,_,_,_,rfl,rfl,_,_⟩ _|intro _ _ _ _ _ _ _))|(refine sx ?_;intro _ _)|((with_reducible refine aJ ?_);simp only [g0,g1,g2]))
    refine pf ?_
    rintro ⟨s, hs, q⟩
    rw [show i = l.length by omega] at hu
    exact dX hu s hs q
end Go.Proofs.YtekfdoknfcedpaaGreat
