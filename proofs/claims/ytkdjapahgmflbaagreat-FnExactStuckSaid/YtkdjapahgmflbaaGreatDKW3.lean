import Derived.Test.YtkdjapahgmflbaaGreatDKW1
import Derived.Test.YtkdjapahgmflbaaGreatDW16
import Derived.Test.YtkdjapahgmflbaaGreatDKW2
import Derived.Test.YtkdjapahgmflbaaGreatDW9
set_option linter.unusedSimpArgs false
set_option linter.unusedVariables false
section
set_option maxHeartbeats 8000000
namespace Go.Proofs.YtkdjapahgmflbaaGreat
open Go Go.Ab
section
def OJ (x0 x1:AV):Prog:=.op (.box x0) fun a=>Lg 29 a fun b=>Ix 12 b x1 fun b=>Ld 12 b fun b=>.op (.alloc gJ) fun c=>.op (.st 12 c b) fun _=>Lg 11 c fun b=>Lg 30 a fun d=>Ln 0 d fun d=>Bn .geq b d fun b=>.ite b (.fin [.val (.bool false)]) (Lg 30 a fun a=>Lg 11 c fun b=>Ix 20 a b fun a=>Ld 20 a fun a=>.op (.alloc iV) fun b=>.op (.st 20 b a) fun _=>Lg 0 b fun a=>Bn .eql a (.int .i64 1) fun a=>.gop a true (.fad 2 b) fun d=>.gop a true (.ldn 6 d) fun d=>.gop a true (.fad 2 c) fun e=>.gop a true (.ldn 6 e) fun e=>.gop a true (.call oI [d,e]) fun d=>Pk a d (.bool false) fun a=>Lg 0 c fun d=>Bn .eql d (.int .i64 2) fun d=>.scope (.ite d (Lg 0 b fun a=>Bn .eql a (.int .i64 2) fun a=>Gf a true 8 b fun d=>Gf a true 8 c fun e=>.gop a true (.bin 0 .eql d e) fun d=>Pk a d (.bool false) fun a=>Gf a true 9 b fun b=>Gf a true 9 c fun c=>.gop a true (.bin 0 .eql b c) fun b=>Pk a b (.bool false) fun a=>.leaf 0 [a]) (.leaf 0 [a])) (fun a=>.gop (g a 0) true (.fad 1 b) fun d=>.gop (g a 0) true (.ld1 d) fun d=>.gop (g a 0) true (.mv x1) fun e=>.gop (g a 0) true (.bin 0 .eql d e) fun d=>Pk (g a 0) d (.bool false) fun a=>Gf a true 19 b fun d=>.gop a true (.bin 0 .eql d (.int .i64 (-1))) fun d=>Pk a d (.bool false) fun a=>Gf a true 18 b fun b=>.gop a true (.bin 0 .neq b (.int .i64 (-1))) fun b=>Gf a true 0 c fun d=>.gop a true (.bin 0 .eql d (.int .i64 2)) fun d=>.gop a true (.mv d) fun d=>Gf d true 1 c fun c=>.gop d true (.bin 0 .eql c (.int .i64 3)) fun c=>.gop a true (.pick d c (.bool false)) fun c=>.gop a true (.bin 2 .eql b c) fun b=>Pk a b (.bool false) fun a=>.fin [.val a]) fun a b=>aB a 1 (.leaf 1 b) .bad)
theorem aa2 (x0 x1:AV):CC Tryz.prog Dj [x0,x1] (OJ x0 x1):=cc Tryz.func219 [1,5,6,7] (fun _=>[])
def Q7 (x0 x1:AV):Prog:=.op (.box x0) fun a=>Lg 29 a fun b=>Ix 12 b x1 fun b=>Ld 12 b fun b=>.op (.alloc gJ) fun c=>.op (.st 12 c b) fun _=>Lg 0 c fun b=>Bn .eql b (.int .i64 0) fun b=>.ite b (.fin [.val (.bool true)]) (Lg 11 c fun b=>Lg 30 a fun d=>Ln 0 d fun d=>Bn .geq b d fun b=>.ite b (.fin [.val (.bool false)]) (Lg 30 a fun a=>Lg 11 c fun b=>Ix 20 a b fun a=>Ld 20 a fun a=>.op (.alloc iV) fun b=>.op (.st 20 b a) fun _=>Lg 1 b fun a=>Bn .neq a x1 fun a=>Gf a false 19 b fun d=>.gop a false (.bin 0 .neq d (.int .i64 (-1))) fun d=>Pk a (.bool true) d fun a=>Gf a false 18 b fun d=>.gop a false (.bin 0 .neq d (.int .i64 (-1))) fun d=>Gf a false 0 c fun e=>.gop a false (.bin 0 .eql e (.int .i64 2)) fun e=>.gop a false (.mv e) fun e=>Gf e true 1 c fun f=>.gop e true (.bin 0 .eql f (.int .i64 3)) fun f=>.gop a false (.pick e f (.bool false)) fun e=>.gop a false (.bin 2 .neq d e) fun d=>Pk a (.bool true) d fun a=>.ite a (.fin [.val (.bool false)]) (Lg 0 c fun a=>Bn .eql a (.int .i64 1) fun a=>.ite a (Lg 0 b fun a=>Bn .eql a (.int .i64 1) fun a=>.gop a true (.fad 2 b) fun b=>.gop a true (.ldn 6 b) fun b=>.gop a true (.fad 2 c) fun c=>.gop a true (.ldn 6 c) fun c=>.gop a true (.call xg [b,c]) fun b=>Pk a b (.bool false) fun a=>.fin [.val a]) (Lg 0 b fun a=>Bn .eql a (.int .i64 2) fun a=>Gf a true 8 b fun d=>Gf a true 8 c fun e=>.gop a true (.bin 0 .eql d e) fun d=>Pk a d (.bool false) fun a=>Gf a true 9 b fun b=>Gf a true 9 c fun c=>.gop a true (.bin 0 .eql b c) fun b=>Pk a b (.bool false) fun a=>.fin [.val a]))))
theorem ae3 (x0 x1:AV):CC Tryz.prog Ee [x0,x1] (Q7 x0 x1):=cc Tryz.func270
end
def BD (k:Nat) (t:Task) (d:bI):Prop:=d.task=k∧d.res= -1∧(d.lin≠-1↔(t.op=2∧t.pc=3))∧((t.op=1∧d.op=1∧d.s=t.s)∨(t.op=2∧d.op=2∧d.trace=t.trace∧d.stamp=t.stamp))
def um (x:Wld) (k:Nat) (t:Task):Prop:=match x.aF[t.h.toNat]? with
 |none=>False
 |some d=>BD k t d
theorem GR {x:Wld} {k:Nat} {t:Task} {d:bI} (h:x.aF[t.h.toNat]? =some d):um x k t↔BD k t d:=by unfold um;rw[h]
theorem XV {x:Wld} {k:Nat} {t:Task} (h:x.aF.length≤t.h.toNat): ¬ um x k t:=by unfold um;rw[List.getElem?_eq_none h];exact id
theorem aaH {h:AH} {x:Wld} {cs:List AV} {F:List Nat} {k:Nat} {t:Task} (ht:x.tasks[k]? =some t) (h0:0≤t.h) (ho:t.op=1∨t.op=2) (r:Cel.rep h x cs F):
  aM Tryz.prog Dj [.agg cs,.int .i64 (k:Int)] h (.bool (bp (um x k t))):=by
 obtain⟨v0,v1,v2,v3,v4,v5,v6,v7,v8,v9,v10,F0,F1,F2,F3,F4,F5,F6,F7,F8,F9,F10,rfl,rfl,r0,r1,r2,r3,r4,r5,r6,r7,r8,r9,r10⟩:=r
 have hl9:=r9.small
 have NM:=r10.small
 refine reader (aa2 _ _) (by simp only[old]) ?_
 unfold OJ
 by_cases hlt:t.h.toNat < x.aF.length
 ·obtain⟨d,hd,-,-⟩:=aP hlt
  (repeat' first|refine vs ?_|(refine br ?_ ?_<;>first|exact bx|intro _)|((with_reducible refine aA oI ?_);(refine aS (DF (a:=d.s) (b:=t.s) ah ah) ?_ ?_<;>intro hn))|((with_reducible refine aY ?_);((first|refine ix ?_|refine ixi ?_);first|rintro _ _ _ _ _ ⟨_,rfl,_⟩ _|rintro _ _ _ _ _ ⟨_,_,_,_,rfl,rfl,_,_⟩ _))|refine gS ?_|fail)
  all_goals first
   |(refine pt ((GR hd).2 ?_);unfold BD;first|exact⟨by omega,by omega,by omega,.inl ⟨by omega,by omega,by assumption⟩⟩|exact⟨by omega,by omega,by omega,.inr ⟨by omega,by omega,by omega,by omega⟩⟩)
   |(refine pf fun k=>?_;obtain⟨a1,a2,a3,⟨b1,b2,b3⟩|⟨b1,b2,b3,b4⟩⟩:=(GR hd).1 k<;>first|contradiction|omega)
 ·(repeat' first|refine vs ?_|(refine br ?_ ?_<;>first|exact bo|intro _)|((with_reducible refine aY ?_);((refine ix ?_);rintro _ _ _ _ _ ⟨_,_,_,_,rfl,rfl,_,_⟩ _))|fail)
  exact pf (XV (by omega))
theorem adV {h:AH} {x:Wld} {cs:List AV} {F:List Nat} {k:Nat} {t:Task} (ht:x.tasks[k]? =some t) (h0:0≤t.h) (ho:t.op=0∨t.op=1∨t.op=2) (r:Cel.rep h x cs F):
  aM Tryz.prog Ee [.agg cs,.int .i64 (k:Int)] h (.bool (bp (t.op≠0→um x k t))):=by
 obtain⟨v0,v1,v2,v3,v4,v5,v6,v7,v8,v9,v10,F0,F1,F2,F3,F4,F5,F6,F7,F8,F9,F10,rfl,rfl,r0,r1,r2,r3,r4,r5,r6,r7,r8,r9,r10⟩:=r
 have hl9:=r9.small
 have NM:=r10.small
 refine reader (ae3 _ _) (by simp only[old]) ?_
 unfold Q7
 by_cases hlt:t.h.toNat < x.aF.length
 ·obtain⟨d,hd,-,-⟩:=aP hlt
  (repeat' first|refine vs ?_|(refine br ?_ ?_<;>first|exact bx|intro _)|((with_reducible refine aA xg ?_);(refine aS (PO (a:=d.s) (b:=t.s) ah ah) ?_ ?_<;>intro hn))|((with_reducible refine aY ?_);((first|refine ix ?_|refine ixi ?_);first|rintro _ _ _ _ _ ⟨_,rfl,_⟩ _|rintro _ _ _ _ _ ⟨_,_,_,_,rfl,rfl,_,_⟩ _))|fail)
  all_goals first
   |exact pt fun hh=>absurd (by assumption) hh
   |(refine pt fun _=>(GR hd).2 ?_;unfold BD;first|exact⟨by omega,by omega,by omega,.inl ⟨by omega,by omega,by assumption⟩⟩|exact⟨by omega,by omega,by omega,.inr ⟨by omega,by omega,by omega,by omega⟩⟩)
   |(refine pf fun k=>?_;obtain⟨a1,a2,a3,⟨b1,b2,b3⟩|⟨b1,b2,b3,b4⟩⟩:=(GR hd).1 (k (by omega))<;>first|contradiction|omega)
 ·(repeat' first|refine vs ?_|(refine br ?_ ?_<;>first|exact bo|intro _)|((with_reducible refine aY ?_);((refine ix ?_);rintro _ _ _ _ _ ⟨_,_,_,_,rfl,rfl,_,_⟩ _))|fail)
  all_goals first
   |exact pt fun hh=>absurd (by assumption) hh
   |exact pf fun k=>XV (by omega) (k (by omega))
end Go.Proofs.YtkdjapahgmflbaaGreat
end
section
set_option maxHeartbeats 8000000
namespace Go.Proofs.YtkdjapahgmflbaaGreat
open Go Go.Ab
section
def RH (x0:AV):Prog:=.op (.box x0) fun a=>Lg 29 a fun b=>Ln 0 b fun b=>Bn .neq b (.int .i64 5) fun b=>.ite b (.fin [.val (.bool false)]) (Lg 14 a fun b=>Ln 0 b fun b=>.op (.iw 1 8 [.int .i64 0] b b) fun b=>Ln 0 b fun c=>.loop [.int .i64 0] (fun a=>Bn .lss (g a 0) c fun c=>.ite c (Ix 1 b (g a 0) fun b=>.op (.st 1 b (.int .i64 (-1))) fun _=>Bn .add (g a 0) (.int .i64 1) fun a=>.leaf 0 [a]) (.leaf 2 [g a 0])) fun c d=>aB c 1 (.leaf 1 d) (aB c 2 (Lg 29 a fun c=>Ln 0 c fun d=>.loop [.int .i64 (-1),.tup [],.tup [],.int .i64 0] (fun e=>Bn .lss (g e 3) d fun d=>.ite d (Ix 12 c (g e 3) fun c=>Ld 12 c fun c=>.op (.alloc gJ) fun d=>.op (.st 12 d c) fun _=>Ld 12 d fun c=>Cl Fu [c,g e 3] fun c=>.op (.una .not c) fun c=>Gf c false 0 d fun f=>.gop c false (.bin 0 .neq f (.int .i64 0)) fun f=>.gop c false (.mv f) fun f=>.gop f true (.ldn 32 a) fun i=>.gop f true (.mv (g e 3)) fun j=>.gop f true (.call Dj [i,j]) fun i=>.gop f true (.una .not i) fun i=>.gop c false (.pick f i (.bool false)) fun f=>Pk c (.bool true) f fun c=>.ite c (.fin [.val (.bool false)]) (Ld 12 d fun c=>Lg 14 a fun a=>Ln 0 a fun a=>Cl Je [c,a] fun a=>Bn .geq a (.int .i64 0) fun c=>.scope (.ite c (Ix 1 b a fun c=>.op (.ld1 c) fun c=>.op (.bin 0 .neq c (.int .i64 (-1))) fun c=>.ite c (.fin [.val (.bool false)]) (Ix 1 b a fun a=>.op (.st 1 a (g e 3)) fun _=>.leaf 0 [])) (.leaf 0 [])) (fun _=>Ld 12 d fun a=>Cl z8 [a] fun a=>.scope (.ite a (.op (.bin 0 .neq (g e 0) (.int .i64 (-1))) fun a=>.ite a (.fin [.val (.bool false)]) (.leaf 0 [g e 3])) (.leaf 0 [g e 0])) (fun a=>Bn .add (g e 3) (.int .i64 1) fun b=>.leaf 0 [g a 0,g e 3,d,b]) fun a b=>aB a 1 (.leaf 1 b) .bad) fun a b=>aB a 1 (.leaf 1 b) .bad)) (.leaf 4 [g e 0,g e 1,g e 2,g e 3])) fun c d=>aB c 1 (.leaf 1 d) (aB c 4 (Lg 14 a fun c=>Ln 0 c fun e=>.loop [.int .i64 0] (fun a=>Bn .lss (g a 0) e fun d=>.ite d (Ix 2 c (g a 0) fun c=>Ld 2 c fun c=>.op (.alloc [.int .i64 0,.aC]) fun d=>.op (.st 2 d c) fun _=>Lg 0 d fun c=>Ix 1 b (g a 0) fun b=>.op (.ld1 b) fun b=>Bn .neq c b fun b=>.ite b (.fin [.val (.bool false)]) (Bn .add (g a 0) (.int .i64 1) fun a=>.leaf 0 [a])) (.leaf 6 [g a 0])) fun b c=>aB b 1 (.leaf 1 c) (aB b 6 (Lg 15 a fun a=>Bn .eql a (g d 0) fun a=>.fin [.val a]) .bad)) .bad)) .bad))
theorem afM (x0:AV):CC Tryz.prog EI [x0] (RH x0):=cc Tryz.func115 [1,3,5,6,7,20,21,29,30,31,74,75,76] (fun r=>if r=28 then[(0,[]),(1,[]),(2,[]),(3,[]),(4,[]),(5,[]),(6,[])] else[])
end
def kQ (n:Nat) (hs:List Int) (k:Nat) (t:Task):Option (List Int):=if 0≤eP t n then(if hs[(eP t n).toNat]? =some (-1) then some (hs.set (eP t n).toNat (k:Int)) else none) else some hs
def kR (r:Int) (k:Nat) (t:Task):Option Int:=if t.op=2∧t.pc=2 then(if r= -1 then some (k:Int) else none) else some r
def yA (n:Nat) (s:List Int × Int) (k:Nat) (t:Task):Option (List Int × Int):=match kQ n s.1 k t,kR s.2 k t with
 |some a,some b=>some (a,b)
 |_,_=>none
def fM (n:Nat) (l:List Task):Nat→Option (List Int × Int)
 |0=>some (List.replicate n (-1),-1)
 |k+1=>match fM n l k,l[k]? with
  |some s,some t=>yA n s k t
  |_,_=>none
theorem qB {n k:Nat} {l:List Task} {hs hs':List Int} {r r':Int} {t:Task} (h:fM n l k=some (hs,r)) (ht:l[k]? =some t) (a:kQ n hs k t=some hs') (b:kR r k t=some r'):fM n l (k+1)=some (hs',r'):=by
 simp[fM,h,ht,yA,a,b]
theorem WG {n k:Nat} {l:List Task} {hs:List Int} {r:Int} {t:Task} (h:fM n l k=some (hs,r)) (ht:l[k]? =some t) (a:kQ n hs k t=none):fM n l (k+1)=none:=by
 simp[fM,h,ht,yA,a]
theorem Gm {n k:Nat} {l:List Task} {hs:List Int} {r:Int} {t:Task} (h:fM n l k=some (hs,r)) (ht:l[k]? =some t) (b:kR r k t=none):fM n l (k+1)=none:=by
 simp only[fM,h,ht,yA,b]
 cases kQ n hs k t<;>rfl
theorem sS {n k:Nat} {l:List Task} (h:fM n l k=none):∀ {m:Nat},k≤m→fM n l m=none
 |0,hm=>by have:k=0:=(by omega);subst this;exact h
 |m+1,hm=>by
  by_cases e:k=m+1
  ·subst e;exact h
  ·have:=sS h (m:=m) (by omega)
   simp[fM,this]
theorem Mi {n k:Nat} {hs:List Int} {t:Task} (h: ¬ eP t n ≥ 0):kQ n hs k t=some hs:=by unfold kQ;rw[if_neg (by omega)]
theorem Mh {n k:Nat} {hs:List Int} {t:Task} {y:Int} (h:eP t n ≥ 0) (hy:hs[(eP t n).toNat]? =some y) (e:y= -1):kQ n hs k t=some (hs.set (eP t n).toNat (k:Int)):=by
 subst e;unfold kQ;rw[if_pos (by omega),if_pos hy]
theorem Xi {n k:Nat} {hs:List Int} {t:Task} {y:Int} (h:eP t n ≥ 0) (hy:hs[(eP t n).toNat]? =some y) (e: ¬ y= -1):kQ n hs k t=none:=by
 unfold kQ;rw[if_pos (by omega),if_neg (by rw[hy];simpa using e)]
theorem Br {r:Int} {k:Nat} {t:Task} (h: ¬ (t.op=2∧t.pc=2)):kR r k t=some r:=by unfold kR;rw[if_neg h]
theorem Bq {r:Int} {k:Nat} {t:Task} (h:t.op=2∧t.pc=2) (e:r= -1):kR r k t=some (k:Int):=by unfold kR;rw[if_pos h,if_pos e]
theorem Gv {r:Int} {k:Nat} {t:Task} (h:t.op=2∧t.pc=2) (e: ¬ r= -1):kR r k t=none:=by unfold kR;rw[if_pos h,if_neg e]
theorem Ms (t:Task) (n:Nat): -1≤eP t n∧(0≤eP t n→eP t n < n):=by
 unfold eP
 by_cases hn:(n:Int) < 1
 ·rw[if_pos hn];omega
 ·rw[if_neg hn]
  have h1:=iU (t:=t.s.trace) (n:=n) (by omega)
  have h2:=iU (t:=t.trace) (n:=n) (by omega)
  split
  ·omega
  ·split<;>omega
def wE (x:Wld) (k:Nat) (t:Task):Prop:=yN t k∧(t.op≠0→um x k t)
def GL (x:Wld):Prop:=∃ hs r,fM x.st.length x.tasks x.tasks.length=some (hs,r)∧(∀ (i:Nat) (s:aQ),x.st[i]? =some s→hs[i]? =some s.held)∧x.bS=r
def Yi (x:Wld):Prop:=(x.tasks.length:Int)=5∧(∀ (k:Nat) (t:Task),x.tasks[k]? =some t→wE x k t)∧GL x
def Yh (x:Wld):Prop:=(∀ (k:Nat) (t:Task),x.tasks[k]? =some t→wE x k t∧t.stamp < x.next)∧GL x
theorem Wm {t:Task} {k:Int} (h:yN t k):0≤t.h:=h.1
theorem LC {t:Task} {k:Int} (h:yN t k) (h0: ¬ t.op=0):t.op=1∨t.op=2:=by
 obtain⟨-,-,-,h|h|h⟩:=h
 ·exact absurd (by rw[h];rfl) h0
 ·exact .inl h.1
 ·exact .inr h.1
theorem ai4 {t:Task} {k:Int} (h:yN t k):t.op=0∨t.op=1∨t.op=2:=by
 by_cases h0:t.op=0
 ·exact .inl h0
 ·exact .inr (LC h h0)
section
variable{P:Program} {h:AH} {Q:Nat→List AV→AH→Prop} {k:AV→Prog}
theorem X3 {z y:Int} {v:AV} {xs:List Int} {F:List Nat} (r:au h v xs F) (hz:0≤z) (hy:xs[z.toNat]? =some y) (hk:(k (.int .i64 y)).awp P h Q):(Prog.op (.idx 1 v (.int .i64 z)) fun a=>.op (.ld1 a) k).awp P h Q:=by
 have e1:z=((z.toNat:Nat):Int):=by omega
 rw[e1]
 refine bV r hy rfl ?_
 rintro b o _ Fi a ⟨rfl,rfl⟩ _
 exact vF a (Ext.refl _) hk
theorem Ww {h:AH} {y:Int}:∀ n,bT h (List.replicate n y) (List.replicate n ([.int .i64 y]:List AV)).flatten []
 |0=>⟨rfl,rfl⟩
 |n+1=>⟨[.int .i64 y],_,[],[],by simp[List.replicate_succ],rfl,⟨rfl,rfl⟩,Ww n⟩
end
theorem aeu {h:AH} {x:Wld} {cs:List AV} {F:List Nat} (ok:Cel.ok x) (hs:Sz.sz x≤67108864) (r:Cel.rep h x cs F):
  aM Tryz.prog EI [.agg cs] h (.bool (bp (Yi x))):=by
 obtain⟨v0,v1,v2,v3,v4,v5,v6,v7,v8,v9,v10,F0,F1,F2,F3,F4,F5,F6,F7,F8,F9,F10,rfl,rfl,r0,r1,r2,r3,r4,r5,r6,r7,r8,r9,r10⟩:=r
 obtain⟨wK,Bw,wF,Az,Cv,yx,Bv,Cu,BN,sZ,wh,vK,Bl,vT⟩:=ok
 have hs:Sz.sz x.c+(x.st.length+szs x.st)+(x.cache.length+szs x.cache)+Sz.sz x.w+(x.due.length+szs x.due)+(x.queue.length+szs x.queue)+(x.out.length+szs x.out)+(x.tasks.length+szs x.tasks)+(x.aF.length+szs x.aF)≤67108864:=hs
 have hl1:=r1.small
 have hl9:=r9.small
 refine reader (afM _) (by simp only[old]) ?_
 unfold RH
 (repeat' first|refine vs ?_|(refine br ?_ ?_<;>first|exact bx|intro _)|fail)
 ·exact pf fun k=>by have:=k.1;omega
 refine MB (by omega) ?_
 have hlr:(List.replicate x.st.length (0:Int)).length=x.st.length:=by simp
 have rN:au ((h.push ⟨(x.cs v0 v1 v2 v3 v4 v5 v6 v7 v8 v9 v10),0,0⟩).push ⟨(List.replicate x.st.length ([.int .i64 0]:List AV)).flatten,1,0⟩) (.sl (h.n+1) 0 x.st.length) (List.replicate x.st.length (0:Int)) [h.n+1]:=lC (h:=h.push ⟨(x.cs v0 v1 v2 v3 v4 v5 v6 v7 v8 v9 v10),0,0⟩) (n:=x.st.length) (xs:=List.replicate x.st.length (0:Int)) (by simp) (by omega) (Ww _)
 have oN:Own (h.n+1) ((h.push ⟨(x.cs v0 v1 v2 v3 v4 v5 v6 v7 v8 v9 v10),0,0⟩).push ⟨(List.replicate x.st.length ([.int .i64 0]:List AV)).flatten,1,0⟩) [h.n+1]:=mM (by simp) rfl (by simp) Own.nil
 (repeat' first|refine vs ?_|fail)
 refine aT x.st.length (fun i vs h1=>∃ G,vs=[.int .i64 (i:Int)]∧i≤x.st.length∧Ext (h.push ⟨(x.cs v0 v1 v2 v3 v4 v5 v6 v7 v8 v9 v10),0,0⟩) h1∧h.n+2≤h1.n∧au h1 (.sl (h.n+1) 0 x.st.length) (List.replicate i (-1:Int)++List.replicate (x.st.length - i) 0) G∧Own (h.n+1) h1 G) ⟨_,rfl,Nat.zero_le _,aD,by simp,by simpa using rN,oN⟩ ?_
 rintro i vs h1 _ ⟨G,rfl,hi,e1,hn1,rG,oG⟩
 simp only[g0]
 refine br (fun hlt=>?_) (fun hge=>?_)
 ·refine dM (Mw rG oG (by omega) (by simp;omega) ?_)
  intro h2 ek2 kp2 hn2 rG2 oG2
  (repeat' first|refine vs ?_|fail)
  refine⟨by omega,G,rfl,by omega,ek2 _ e1 (by simp),by omega,?_,oG2⟩
  have:(List.replicate i (-1:Int)++List.replicate (x.st.length - i) 0).set ((i:Int)).toNat (-1)=List.replicate (i+1) (-1:Int)++List.replicate (x.st.length - (i+1)) 0:=by
   have e:x.st.length - i=(x.st.length - (i+1))+1:=by omega
   rw[e,List.replicate_succ,List.set_append_right _ _ (by simp),List.replicate_succ' (n:=i)]
   simp
  rw[←this];exact rG2
 have ei:i=x.st.length:=by omega
 subst ei
 rw[show List.replicate x.st.length (-1:Int)++List.replicate (x.st.length - x.st.length) 0=List.replicate x.st.length (-1:Int) by simp] at rG
 (repeat' first|refine vs ?_|fail)
 have b1:Bk h1 h.n (x.cs v0 v1 v2 v3 v4 v5 v6 v7 v8 v9 v10) 0:=dX e1 fD
 refine aT x.tasks.length (fun i vs h2=>∃ y1 y2 hs r G,vs=[.int .i64 r,y1,y2,.int .i64 (i:Int)]∧i≤x.tasks.length∧Ext (h.push ⟨(x.cs v0 v1 v2 v3 v4 v5 v6 v7 v8 v9 v10),0,0⟩) h2∧h.n+2≤h2.n∧hs.length=x.st.length∧fM x.st.length x.tasks i=some (hs,r)∧au h2 (.sl (h.n+1) 0 x.st.length) hs G∧Own (h.n+1) h2 G∧cu x.tasks (wE x) i) ⟨_,_,_,_,G,rfl,Nat.zero_le _,aD,hn1,by simp,rfl,rG,oG,up0⟩ ?_
 clear hi hge e1 hn1 rG oG b1 rN oN
 rintro i vs h2 _ ⟨y1,y2,hs',r',G',rfl,hi,e2,hn2,hlen,hlk,rG',oG',hu⟩
 simp only[g0,g1,g2,g3]
 refine br (fun hlt=>?_) (fun hge=>?_)
 ·obtain⟨t,ht,-,-⟩:=aP (show i < x.tasks.length by omega)
  have hm:=List.mem_of_getElem? ht
  have hsz:=bC hm
  have okt:=vK t hm
  have hbz:=Ms t x.st.length
  refine vs ?_
  refine bV r9 ht rfl ?_
  rintro b o _ Fi a ⟨va,vb,Fa,Fb,rfl,rfl,ra,rb⟩ _
  (repeat' first|refine vs ?_|(refine br ?_ ?_<;>first|exact bx|intro _)|((with_reducible refine aA Fu ?_);(refine aS (agH (t:=t) okt (by omega) ah ah) ?_ ?_<;>intro hn))|((with_reducible refine aA Dj ?_);(refine aS (aaH ht (Wm (by assumption)) (LC (by assumption) (by assumption)) ⟨_,_,_,_,_,_,_,_,_,_,_,_,_,_,_,_,_,_,_,_,_,_,rfl,rfl,ah,ah,ah,ah,ah,ah,ah,ah,ah,ah,ah⟩) ?_ ?_<;>intro hn))|fail)
  all_goals first
   |(refine pf fun k=>?_;have k:=k.2.1 i t ht;first|exact absurd k.1 (by assumption)|exact absurd (k.2 (by assumption)) (by assumption))
   |skip
  all_goals
   have hD:wE x i t:=⟨by assumption,by intro hh;first|assumption|exact absurd (by assumption) hh⟩
   refine aJ (aau (t:=t)) ?_
   refine br (fun nk=>?_) (fun hlt2=>?_)
   ·have hzl:=hbz.2 nk
    obtain⟨y,hy,-,-⟩:=aP (show(eP t x.st.length).toNat < hs'.length by omega)
    refine vs ?_
    refine X3 ah (by omega) hy ?_
    refine br (fun hne=>?_) (fun heq=>?_)
    ·(repeat' first|refine vs ?_|fail)
     exact pf fun k=>by
      obtain⟨-,-,h5,r5,hl5,-⟩:=k
      rw[sS (WG hlk ht (Xi nk hy hne)) (by omega)] at hl5;cases hl5
    ·refine dP (Mw (n:=h.n+1) (y:=i) ah bA (by omega) (by omega) ?_)
     intro h3 ek3 kp3 hn3 rG3 oG3
     have e3:=ek3 _ (aD:Ext (h.push ⟨(x.cs v0 v1 v2 v3 v4 v5 v6 v7 v8 v9 v10),0,0⟩) _) (by simp)
     have hsS:=Mh (k:=i) nk hy heq
     have bt:Bk h3 h2.n [.int .i64 t.op,.int .i64 t.pc,.int .i64 t.s.trace,.int .i64 t.s.id,.int .i64 t.s.start,.int .i64 t.s.fin,.bool t.s.err,va,.int .i64 t.trace,.int .i64 t.stamp,vb,.int .i64 t.h] 0:=bF kp3 aV (yP rG' (Nat.le_refl _))
     (repeat' first|refine vs ?_|(refine br ?_ ?_<;>first|exact bo|intro _)|((with_reducible refine aA z8 ?_);(refine aS (OV (t:=t)) ?_ ?_<;>intro hn))|fail)
     all_goals first
      |(refine pf fun k=>?_;obtain⟨-,-,h5,r5,hl5,-⟩:=k;rw[sS (Gm hlk ht (Gv (by assumption) (by assumption))) (by omega)] at hl5;cases hl5)
      |exact⟨by omega,_,_,_,_,_,rfl,by omega,aD,aO,by simpa using hlen,qB hlk ht hsS (Bq (by assumption) (by assumption)),ah,bA,upS hu ht hD⟩
      |exact⟨by omega,_,_,_,_,_,rfl,by omega,aD,aO,by simpa using hlen,qB hlk ht hsS (Br (by assumption)),ah,bA,upS hu ht hD⟩
   ·have hsS:=Mi (k:=i) (hs:=hs') hlt2
    (repeat' first|refine vs ?_|(refine br ?_ ?_<;>first|exact bo|intro _)|((with_reducible refine aA z8 ?_);(refine aS (OV (t:=t)) ?_ ?_<;>intro hn))|fail)
    all_goals first
     |(refine pf fun k=>?_;obtain⟨-,-,h5,r5,hl5,-⟩:=k;rw[sS (Gm hlk ht (Gv (by assumption) (by assumption))) (by omega)] at hl5;cases hl5)
     |exact⟨by omega,_,_,_,_,_,rfl,by omega,aD,aO,hlen,qB hlk ht hsS (Bq (by assumption) (by assumption)),ah,bA,upS hu ht hD⟩
     |exact⟨by omega,_,_,_,_,_,rfl,by omega,aD,aO,hlen,qB hlk ht hsS (Br (by assumption)),ah,bA,upS hu ht hD⟩
 ·have ei:i=x.tasks.length:=by omega
  subst ei
  have hu:=kP hu
  (repeat' first|refine vs ?_|refine gS ?_|fail)
  refine aT x.st.length (fun i vs h3=>vs=[.int .i64 (i:Int)]∧i≤x.st.length∧Ext h2 h3∧cu x.st (fun i s=>hs'[i]? =some s.held) i) ⟨rfl,Nat.zero_le _,Ext.refl _,up0⟩ ?_
  rintro i vs h3 _ ⟨rfl,hi3,e3,hu3⟩
  simp only[g0]
  refine br (fun hlt=>?_) (fun NP=>?_)
  ·obtain⟨s,hx,-,-⟩:=aP (show i < x.st.length by omega)
   obtain⟨y,hy,-,-⟩:=aP (show i < hs'.length by omega)
   (repeat' first|refine vs ?_|(refine br ?_ ?_<;>first|exact bx|intro _)|((with_reducible refine aY ?_);((refine ix ?_);first|rintro _ _ _ _ _ ⟨rfl,rfl⟩ _|rintro _ _ _ _ _ ⟨_,rfl,_⟩ _))|fail)
   ·exact pf fun k=>by
     obtain⟨-,-,h5,r5,hl5,hh,-⟩:=k
     rw[hlk] at hl5;cases hl5
     have:=hh i s hx
     rw[hy] at this;cases this
     contradiction
   ·exact⟨by omega,rfl,by omega,aD,upS hu3 hx (by rw[hy];congr 1;omega)⟩
  ·rw[show i=x.st.length by omega] at hu3
   have hu3:=kP hu3
   (repeat' first|refine vs ?_|(refine br ?_ ?_<;>first|exact bx|intro _)|fail)
   ·exact pt ⟨by omega,hu,_,_,hlk,hu3,by assumption⟩
   ·exact pf fun k=>by
     obtain⟨-,-,h5,r5,hl5,hh,hr⟩:=k
     rw[hlk] at hl5;cases hl5
     contradiction
end Go.Proofs.YtkdjapahgmflbaaGreat
end
section
set_option maxHeartbeats 8000000
namespace Go.Proofs.YtkdjapahgmflbaaGreat
open Go Go.Ab
section
abbrev aaP (Y5:AV) (v1:AV):Prog:=Ln 0 Y5 fun a=>.loop [.int .i64 0] (fun b=>Bn .lss (g b 0) a fun a=>.ite a (Ix 3 Y5 (g b 0) fun a=>Ld 3 a fun a=>.op (.alloc [.int .i64 0,.int .i64 0,.int .i64 0]) fun c=>.op (.st 3 c a) fun _=>Lg 0 c fun a=>Bn .lss a (.int .i64 1) fun a=>Gf a false 1 c fun c=>.gop a false (.call bq [c,.int .i64 1,.int .i64 999]) fun c=>.gop a false (.una .not c) fun c=>Pk a (.bool true) c fun a=>.ite a (.fin [.val (.bool false)]) (Bn .add (g b 0) (.int .i64 1) fun a=>.leaf 0 [a])) (.leaf 2 [g b 0])) fun a b=>aB a 1 (.leaf 1 b) (aB a 2 (Lg 30 v1 fun a=>Ln 0 a fun b=>.loop [.int .i64 0] (fun c=>Bn .lss (g c 0) b fun b=>.ite b (Ix 20 a (g c 0) fun a=>Ld 20 a fun a=>.op (.alloc iV) fun b=>.op (.st 20 b a) fun _=>Ld 20 b fun a=>Cl Fw [a] fun a=>.op (.una .not a) fun a=>Gf a false 17 b fun d=>Gf a false 18 b fun e=>Gf a false 19 b fun b=>.gop a false (.mnx false [d,e,b]) fun b=>Gf a false 12 v1 fun d=>.gop a false (.bin 0 .geq b d) fun b=>Pk a (.bool true) b fun a=>.ite a (.fin [.val (.bool false)]) (Bn .add (g c 0) (.int .i64 1) fun a=>.leaf 0 [a])) (.leaf 4 [g c 0])) fun a b=>aB a 1 (.leaf 1 b) (aB a 4 (.fin [.val (.bool true)]) .bad)) .bad)
abbrev aaO (uw:AV) (v1:AV):Prog:=Gf uw false 27 v1 fun a=>.gop uw false (.len 0 a) fun a=>.gop uw false (.fad 0 v1) fun b=>Gf uw false 4 b fun b=>.gop uw false (.bin 0 .gtr a b) fun a=>Pk uw (.bool true) a fun a=>Gf a false 27 v1 fun b=>.gop a false (.call Ah [b]) fun b=>.gop a false (.una .not b) fun b=>Pk a (.bool true) b fun a=>Gf a false 28 v1 fun b=>.gop a false (.call Ah [b]) fun b=>.gop a false (.una .not b) fun b=>Pk a (.bool true) b fun a=>.ite a (.fin [.val (.bool false)]) (Lg 26 v1 fun a=>aaP a v1)
abbrev aaN (v80:AV) (v1:AV):Prog:=.op (.ld1 v80) fun a=>.op (.fad 0 v1) fun b=>Lg 3 b fun b=>Cl EM [a,b] fun a=>.op (.una .not a) fun a=>.gop a false (.fad 21 v1) fun b=>.gop a false (.ld1 b) fun c=>Gf a false 14 v1 fun d=>.gop a false (.call Dy [d]) fun d=>.kC a false (.ld1 b) c (.gop a false (.bin 0 .neq c d) fun b=>Pk a (.bool true) b fun a=>Gf a false 21 v1 fun b=>.gop a false (.fad 0 v1) fun c=>Gf a false 2 c fun c=>.gop a false (.bin 0 .gtr b c) fun b=>Pk a (.bool true) b fun a=>aaO a v1)
abbrev aaM (v55:AV) (v60:AV) (v58:AV) (v1:AV):Prog:=.gop v55 false (.ld1 v60) fun a=>.gop v55 false (.bin 0 .neq v58 a) fun a=>Pk v55 (.bool true) a fun a=>.gop a false (.fad 16 v1) fun b=>Gf a false 1 b fun b=>.gop a false (.fad 0 v1) fun c=>Gf a false 6 c fun c=>.gop a false (.bin 0 .neq b c) fun b=>Pk a (.bool true) b fun a=>.gop a false (.fad 16 v1) fun b=>Gf a false 3 b fun b=>.gop a false (.fad 22 v1) fun c=>Gf a false 0 c fun c=>.gop a false (.bin 0 .gtr b c) fun b=>Pk a (.bool true) b fun a=>.ite a (.fin [.val (.bool false)]) (.op (.fad 20 v1) fun a=>aaN a v1)
abbrev aaL (v40:AV) (v1:AV):Prog:=Gf v40 false 13 v1 fun a=>.gop v40 false (.mv a) fun a=>.gop a true (.fad 22 v1) fun b=>.gop a true (.ldn 4 b) fun b=>.gop a true (.call vw [b]) fun b=>.gop a true (.len 0 b) fun b=>.gop a true (.bin 0 .gtr b (.int .i64 0)) fun b=>.gop v40 false (.pick a b (.bool false)) fun a=>Pk v40 (.bool true) a fun a=>.gop a false (.fad 16 v1) fun b=>.gop a false (.ldn 4 b) fun b=>.gop a false (.call pW [b]) fun b=>.gop a false (.una .not b) fun b=>Pk a (.bool true) b fun a=>.gop a false (.fad 16 v1) fun b=>Gf a false 0 b fun b=>.gop a false (.fad 0 v1) fun c=>.gop a false (.fad 5 c) fun c=>aaM a c b v1
abbrev aaK (v18:AV) (v20:AV) (v1:AV):Prog:=.gop v18 false (.call Dx [v20]) fun a=>.gop v18 false (.una .not a) fun a=>Pk v18 (.bool true) a fun a=>Gf a false 14 v1 fun b=>.gop a false (.len 0 b) fun b=>.gop a false (.fad 0 v1) fun c=>Gf a false 0 c fun c=>.gop a false (.bin 0 .neq b c) fun b=>Pk a (.bool true) b fun a=>.ite a (.fin [.val (.bool false)]) (.op (.fad 22 v1) fun a=>Ld 4 a fun a=>Cl lg [a] fun a=>.op (.una .not a) fun a=>.gop a false (.fad 22 v1) fun b=>Gf a false 0 b fun b=>.gop a false (.bin 0 .gtr b (.int .i64 100000)) fun b=>Pk a (.bool true) b fun a=>aaL a v1)
def Qk (x0:AV):Prog:=.op (.box x0) fun a=>.op (.fad 0 a) fun b=>Ld 12 b fun b=>Cl Fz [b] fun b=>.op (.una .not b) fun b=>Gf b false 12 a fun c=>.gop b false (.bin 0 .lss c (.int .i64 0)) fun c=>Pk b (.bool true) c fun b=>Gf b false 15 a fun c=>.gop b false (.call bq [c,.int .i64 (-1),.int .i64 4]) fun c=>.gop b false (.una .not c) fun c=>Pk b (.bool true) c fun b=>Gf b false 31 a fun c=>.gop b false (.bin 0 .lss c (.int .i64 1)) fun c=>Pk b (.bool true) c fun b=>Gf b false 14 a fun c=>aaK b c a
theorem adu (x0:AV):CC Tryz.prog DZ [x0] (Qk x0):=cc Tryz.func114 [1,141,142,143,158,159,160] (fun r=>if r=5 then[(0,[]),(1,[]),(2,[]),(3,[]),(4,[]),(5,[]),(6,[]),(7,[]),(8,[]),(9,[]),(10,[]),(11,[]),(12,[9]),(13,[]),(14,[]),(15,[]),(16,[]),(17,[]),(18,[]),(19,[]),(20,[]),(21,[]),(22,[]),(23,[]),(24,[]),(25,[]),(26,[]),(27,[]),(28,[]),(29,[]),(30,[]),(31,[]),(32,[]),(33,[]),(34,[]),(35,[]),(36,[]),(37,[]),(38,[]),(39,[]),(40,[]),(41,[]),(42,[]),(43,[])] else[])
end
theorem Yv {P:Program} {h:AH} {Q:Nat→List AV→AH→Prop} {g:Bool} {o:AOp} {k:AV→Prog} (b:Bool) (hk:(Prog.gop (.bool b) g o k).awp P h Q):(Prog.gop (.bool b) g o k).awp P h Q:=hk
theorem alN {P:Program} {h:AH} {Q:Nat→List AV→AH→Prop} {k:AV→Prog} {a b c:Int} (hk:(k (.int .i64 (max (max a b) c))).awp P h Q):(Prog.op (.mnx false [.int .i64 a,.int .i64 b,.int .i64 c]) k).awp P h Q:=by
 simp only[Prog.awp,AOp.go,uI,pE,Bool.false_eq_true,if_false]
 have e:∀ x y:Int,(if x < y then y else x)=max x y:=fun x y=>by split<;>omega
 simp only[e]
 exact hk
def Ho (x:Wld):Prop:=BS x.c∧0≤x.time∧1≤x.next∧A9 x.st∧(x.st.length:Int)=x.c.eU∧jB x.b∧x.b.rate=x.c.rate∧x.b.bn=x.c.bn∧x.b.at_≤x.w.now∧cOk x.cache x.c.cache∧
 x.used=held x.st∧x.used≤x.c.budget∧jg x.w∧x.w.now≤100000∧(x.shut=true→¬ 0 < ((timers x.w).length:Int))∧(x.queue.length:Int)≤x.c.queue∧(∀ y∈x.queue,lH y)∧(∀ y∈x.out,lH y)∧
 ∀ d∈x.aF,nJ d∧d.inv < x.time∧d.lin < x.time∧d.res < x.time
def Y0 (x:Wld):Prop:=∀ t∈x.due,1≤t.id∧(1≤t.trace∧t.trace≤999)
theorem acK {h:AH} {x:Wld} {cs:List AV} {F:List Nat} (ok:Cel.ok x) (hs:Sz.sz x≤67108864) (r:Cel.rep h x cs F):
  aM Tryz.prog DZ [.agg cs] h (.bool (bp (Ho x∧(-1≤x.bS∧x.bS≤4)∧Y0 x))):=by
 obtain⟨v0,v1,v2,v3,v4,v5,v6,v7,v8,v9,v10,F0,F1,F2,F3,F4,F5,F6,F7,F8,F9,F10,rfl,rfl,r0,r1,r2,r3,r4,r5,r6,r7,r8,r9,r10⟩:=r
 obtain⟨wK,Bw,wF,Az,Cv,yx,Bv,Cu,BN,sZ,wh,vK,Bl,vT⟩:=ok
 have hs:Sz.sz x.c+(x.st.length+szs x.st)+(x.cache.length+szs x.cache)+Sz.sz x.w+(x.due.length+szs x.due)+(x.queue.length+szs x.queue)+(x.out.length+szs x.out)+(x.tasks.length+szs x.tasks)+(x.aF.length+szs x.aF)≤67108864:=hs
 have hl1:=r1.small
 have hl6:=r6.small
 have hl7:=r7.small
 have NM:=r10.small
 refine reader (adu _) (by simp only[old]) ?_
 unfold Qk
 (repeat' first|refine vs ?_|((with_reducible refine Yv x.shut ?_);generalize hsh:x.shut=bsh;cases bsh)|(refine br ?_ ?_<;>first|exact bx|intro _)|((with_reducible refine aA bq ?_);(refine bU (eZ) ?_ ?_<;>intro hb<;>(first|replace hb:=dx hb|replace hb:=dz hb)))|((with_reducible refine aA Fz ?_);(refine aS (agN (c:=x.c) wK.2.2.2.2.2.2.2 ah) ?_ ?_<;>intro hn))|((with_reducible refine aA Dx ?_);(refine aS (abp wF aO ah) ?_ ?_<;>intro hn))|((with_reducible refine aA lg ?_);(refine aS (sD (w:=x.w) aO ah ah ah) ?_ ?_<;>intro hn))|((with_reducible refine aA vw ?_);(refine aK (EW (w:=x.w) aO ah ah ah) ?_;rintro _ _ ⟨e_,_,_,_⟩;have n_:=e_.1;(try simp only[aH,aN] at n_)))|((with_reducible refine aA pW ?_);(refine aS (DK (b:=x.b)) ?_ ?_<;>intro hn))|((with_reducible refine aA EM ?_);(refine aS (aeD ah) ?_ ?_<;>intro hn))|((with_reducible refine aA Dy ?_);refine aJ (abt (l:=x.st) aO ah) ?_)|((with_reducible refine aA Ah ?_);((first|refine bU (QM (xs:=x.queue) sZ aO ah) ?_ ?_|refine bU (QM (xs:=x.out) wh aO ah) ?_ ?_)<;>intro hn<;>first|replace hn:=tH hn|replace hn:=Gr hn))|fail)
 all_goals first
  |(refine pf fun k=>?_;obtain⟨⟨a1,a2,a3,a4,a5,a6,a7,a8,a9,a10,a11,a12,a13,a14,a15,a16,a17,a18,a19⟩,b1,b2⟩:=k;first|contradiction|omega|(have:=a15 (by assumption);omega))
  |skip
 all_goals
  refine aT x.due.length (fun i vs h1=>vs=[.int .i64 (i:Int)]∧i≤x.due.length∧Ext (h.push ⟨(x.cs v0 v1 v2 v3 v4 v5 v6 v7 v8 v9 v10),0,0⟩) h1∧cu x.due (fun _ t=>1≤t.id∧(1≤t.trace∧t.trace≤999)) i) ⟨rfl,Nat.zero_le _,aD,up0⟩ ?_
  rintro i vs h1 _ ⟨rfl,hi,e1,hu⟩
  simp only[g0]
  refine br (fun hlt=>?_) (fun hge=>?_)
  ·obtain⟨t,ht,-,-⟩:=aP (show i < x.due.length by omega)
   (repeat' first|refine vs ?_|(refine br ?_ ?_<;>first|exact bx|intro _)|((with_reducible refine aA bq ?_);(refine bU (eZ) ?_ ?_<;>intro hb<;>(first|replace hb:=dx hb|replace hb:=dz hb)))|((with_reducible refine aY ?_);((refine ix ?_);rintro _ _ _ _ _ ⟨rfl,rfl⟩ _))|fail)
   all_goals first
    |exact pf fun k=>jP ht (by rintro⟨a1,a2⟩;omega) k.2.2
    |exact⟨by omega,rfl,by omega,aD,upS hu ht (by omega)⟩
  rw[show i=x.due.length by omega] at hu
  have anP:=fV hu
  clear hi hge hu
  (repeat' first|refine vs ?_|fail)
  refine aT x.aF.length (fun i vs h2=>vs=[.int .i64 (i:Int)]∧i≤x.aF.length∧Ext (h.push ⟨(x.cs v0 v1 v2 v3 v4 v5 v6 v7 v8 v9 v10),0,0⟩) h2∧cu x.aF (fun _ d=>nJ d∧d.inv < x.time∧d.lin < x.time∧d.res < x.time) i) ⟨rfl,Nat.zero_le _,aD,up0⟩ ?_
  rintro i vs h2 _ ⟨rfl,hi,e2,hu⟩
  simp only[g0]
  refine br (fun hlt=>?_) (fun hge=>?_)
  ·obtain⟨t,ht,-,-⟩:=aP (show i < x.aF.length by omega)
   (repeat' first|refine vs ?_|(with_reducible refine alN ?_)|(refine br ?_ ?_<;>first|exact bx|intro _)|((with_reducible refine aA Fw ?_);(refine aS (agM (d:=t)) ?_ ?_<;>intro hn))|((with_reducible refine aY ?_);((refine ix ?_);rintro _ _ _ _ _ ⟨_,rfl,_⟩ _))|fail)
   all_goals first
    |(refine pf fun k=>jP ht (by rintro⟨a1,a2⟩;first|contradiction|omega) k.1.2.2.2.2.2.2.2.2.2.2.2.2.2.2.2.2.2.2)
    |exact⟨by omega,rfl,by omega,aD,upS hu ht ⟨by assumption,by omega⟩⟩
  rw[show i=x.aF.length by omega] at hu
  have ML:=fV hu
  (repeat' first|refine vs ?_|fail)
  exact pt ⟨⟨by assumption,by omega,by omega,by assumption,by omega,by assumption,by omega,by omega,by omega,by assumption,by omega,by omega,by assumption,by omega,by intro hh;first|omega|(rw[hsh] at hh;cases hh),by omega,by assumption,by assumption,ML⟩,by omega,anP⟩
end Go.Proofs.YtkdjapahgmflbaaGreat
end
section
set_option maxHeartbeats 8000000
namespace Go.Proofs.YtkdjapahgmflbaaGreat
open Go Go.Ab
section
def PX (x0:AV):Prog:=.op (.box x0) fun a=>.op (.aU 1 0 [] []) fun b=>.loop [b,.int .i64 0] (fun b=>Lg 14 a fun a=>Ln 0 a fun a=>Bn .lss (g b 1) a fun a=>.ite a (.op (.aU 1 1 [.int .i64 0] [(0,1,.int .i64 (-1))]) fun a=>.op (.app 1 8 (g b 0) a) fun a=>Bn .add (g b 1) (.int .i64 1) fun b=>.leaf 0 [a,b]) (.leaf 2 [g b 0,g b 1])) fun b c=>aB b 1 (.leaf 1 c) (aB b 2 (.loop [.int .i64 (-1),.int .i64 0,.tup []] (fun b=>Lg 29 a fun d=>Ln 0 d fun d=>Bn .lss (g b 1) d fun d=>.ite d (Lg 29 a fun d=>Ix 12 d (g b 1) fun d=>Ld 12 d fun d=>.op (.alloc gJ) fun e=>.op (.st 12 e d) fun _=>Ld 12 e fun d=>Cl EZ [d,g b 1] fun d=>.op (.una .not d) fun d=>.gop d false (.ldn 32 a) fun f=>.gop d false (.mv (g b 1)) fun i=>.gop d false (.call Ee [f,i]) fun f=>.gop d false (.una .not f) fun f=>Pk d (.bool true) f fun d=>Gf d false 9 e fun f=>Gf d false 31 a fun i=>.gop d false (.bin 0 .geq f i) fun f=>Pk d (.bool true) f fun d=>.ite d (.fin [.val (.bool false)]) (Ld 12 e fun d=>Lg 14 a fun a=>Ln 0 a fun a=>Cl Jc [d,a] fun a=>Bn .geq a (.int .i64 0) fun d=>.scope (.ite d (Ix 1 (g c 0) a fun d=>.op (.ld1 d) fun d=>.op (.bin 0 .neq d (.int .i64 (-1))) fun d=>.ite d (.fin [.val (.bool false)]) (Ix 1 (g c 0) a fun a=>.op (.st 1 a (g b 1)) fun _=>.leaf 0 [])) (.leaf 0 [])) (fun _=>Ld 12 e fun a=>Cl zS [a] fun a=>.scope (.ite a (.op (.bin 0 .neq (g b 0) (.int .i64 (-1))) fun a=>.ite a (.fin [.val (.bool false)]) (.leaf 0 [g b 1])) (.leaf 0 [g b 0])) (fun a=>Bn .add (g b 1) (.int .i64 1) fun b=>.leaf 0 [g a 0,b,e]) fun a b=>aB a 1 (.leaf 1 b) .bad) fun a b=>aB a 1 (.leaf 1 b) .bad)) (.leaf 4 [g b 0,g b 1,g b 2])) fun b d=>aB b 1 (.leaf 1 d) (aB b 4 (.loop [.int .i64 0] (fun b=>Lg 14 a fun d=>Ln 0 d fun d=>Bn .lss (g b 0) d fun d=>.ite d (Lg 14 a fun a=>Ix 2 a (g b 0) fun a=>Lg 0 a fun a=>Ix 1 (g c 0) (g b 0) fun c=>.op (.ld1 c) fun c=>Bn .neq a c fun a=>.ite a (.fin [.val (.bool false)]) (Bn .add (g b 0) (.int .i64 1) fun a=>.leaf 0 [a])) (.leaf 6 [g b 0])) fun b c=>aB b 1 (.leaf 1 c) (aB b 6 (Lg 15 a fun a=>Bn .eql a (g d 0) fun a=>.fin [.val a]) .bad)) .bad)) .bad)
theorem ac3 (x0:AV):CC Tryz.prog DL [x0] (PX x0):=cc Tryz.func161 [1,3,4,5,6,7,9] (fun r=>if r=25 then[(0,[]),(1,[]),(2,[]),(3,[]),(4,[]),(5,[]),(6,[]),(7,[]),(8,[]),(9,[]),(10,[])] else[])
end
theorem acv {h:AH} {x:Wld} {cs:List AV} {F:List Nat} (ok:Cel.ok x) (hs:Sz.sz x≤67108864) (r:Cel.rep h x cs F):
  aM Tryz.prog DL [.agg cs] h (.bool (bp (Yh x))):=by
 obtain⟨v0,v1,v2,v3,v4,v5,v6,v7,v8,v9,v10,F0,F1,F2,F3,F4,F5,F6,F7,F8,F9,F10,rfl,rfl,r0,r1,r2,r3,r4,r5,r6,r7,r8,r9,r10⟩:=r
 obtain⟨wK,Bw,wF,Az,Cv,yx,Bv,Cu,BN,sZ,wh,vK,Bl,vT⟩:=ok
 have hs:Sz.sz x.c+(x.st.length+szs x.st)+(x.cache.length+szs x.cache)+Sz.sz x.w+(x.due.length+szs x.due)+(x.queue.length+szs x.queue)+(x.out.length+szs x.out)+(x.tasks.length+szs x.tasks)+(x.aF.length+szs x.aF)≤67108864:=hs
 have hl1:=r1.small
 have hl9:=r9.small
 refine reader (ac3 _) (by simp only[old]) ?_
 unfold PX
 refine vs ?_
 obtain⟨re,oe⟩:=jy (h:=h.push ⟨(x.cs v0 v1 v2 v3 v4 v5 v6 v7 v8 v9 v10),0,0⟩) (α:=Int) (w:=1) rfl
 refine aT x.st.length (fun i vs h1=>∃ v G,vs=[v,.int .i64 (i:Int)]∧i≤x.st.length∧Ext (h.push ⟨(x.cs v0 v1 v2 v3 v4 v5 v6 v7 v8 v9 v10),0,0⟩) h1∧au h1 v (List.replicate i (-1:Int)) G∧Own (h.n+1) h1 G) ⟨_,_,rfl,Nat.zero_le _,aD,re,oe _ (Nat.le_refl _)⟩ ?_
 rintro i vs h1 _ ⟨v,G,rfl,hi,e1,rG,oG⟩
 have n1:=e1.1
 simp only[aH] at n1
 simp only[g0,g1]
 refine vs ?_
 refine br (fun hlt=>?_) (fun hge=>?_)
 ·have hlr:(List.replicate i (-1:Int)).length=i:=by simp
  refine vs ?_
  refine iJ (n:=h.n+1) (xs:=List.replicate i (-1:Int)) (a:=-1) (G:=[]) rG ⟨rfl,rfl⟩ (by simpa using oG) n1 rfl (by omega) (by omega) ?_
  intro v' h' F' ek kp r' o' _
  (repeat' first|refine vs ?_|fail)
  exact⟨by omega,v',F',rfl,by omega,ek _ e1 (by simp),by rw[List.replicate_succ' (n:=i)];exact r',o'⟩
 have ei:i=x.st.length:=by omega
 subst ei
 (repeat' first|refine vs ?_|refine gS ?_|fail)
 refine aT x.tasks.length (fun i vs h2=>∃ y1 hs r G,vs=[.int .i64 r,.int .i64 (i:Int),y1]∧i≤x.tasks.length∧Ext (h.push ⟨(x.cs v0 v1 v2 v3 v4 v5 v6 v7 v8 v9 v10),0,0⟩) h2∧h.n+1≤h2.n∧hs.length=x.st.length∧fM x.st.length x.tasks i=some (hs,r)∧au h2 v hs G∧Own (h.n+1) h2 G∧cu x.tasks (fun k t=>wE x k t∧t.stamp < x.next) i) ⟨_,_,_,G,rfl,Nat.zero_le _,aD,n1,by simp,rfl,rG,oG,up0⟩ ?_
 clear hi hge e1 n1 rG oG re oe
 rintro i vs h2 _ ⟨y1,hs',r',G',rfl,hi,e2,hn2,hlen,hlk,rG',oG',hu⟩
 simp only[g0,g1,g2]
 refine vs ?_
 refine br (fun hlt=>?_) (fun hge=>?_)
 ·obtain⟨t,ht,-,-⟩:=aP (show i < x.tasks.length by omega)
  have hm:=List.mem_of_getElem? ht
  have hsz:=bC hm
  have okt:=vK t hm
  have hbz:=Ms t x.st.length
  refine vs ?_
  refine bV r9 ht rfl ?_
  rintro b o _ Fi a ⟨va,vb,Fa,Fb,rfl,rfl,ra,rb⟩ _
  (repeat' first|refine vs ?_|(refine br ?_ ?_<;>first|exact bx|intro _)|((with_reducible refine aA EZ ?_);(refine aS (agf (t:=t) okt (by omega) ah ah) ?_ ?_<;>intro hn))|((with_reducible refine aA Ee ?_);(refine aS (adV ht (Wm (by assumption)) (ai4 (by assumption)) ⟨_,_,_,_,_,_,_,_,_,_,_,_,_,_,_,_,_,_,_,_,_,_,rfl,rfl,ah,ah,ah,ah,ah,ah,ah,ah,ah,ah,ah⟩) ?_ ?_<;>intro hn))|fail)
  all_goals first
   |(refine pf fun k=>?_;have k:=k.1 i t ht;first|exact absurd k.1.1 (by assumption)|exact absurd k.1.2 (by assumption)|(have:=k.2;omega))
   |skip
  all_goals
   have hD:wE x i t∧t.stamp < x.next:=⟨⟨by assumption,by assumption⟩,by omega⟩
   refine aJ (aas (t:=t)) ?_
   refine br (fun nk=>?_) (fun hlt2=>?_)
   ·have hzl:=hbz.2 nk
    obtain⟨y,hy,-,-⟩:=aP (show(eP t x.st.length).toNat < hs'.length by omega)
    refine vs ?_
    refine X3 ah (by omega) hy ?_
    refine br (fun hne=>?_) (fun heq=>?_)
    ·(repeat' first|refine vs ?_|fail)
     exact pf fun k=>by
      obtain⟨-,h5,r5,hl5,-⟩:=k
      rw[sS (WG hlk ht (Xi nk hy hne)) (by omega)] at hl5;cases hl5
    ·refine dP (Mw (n:=h.n+1) (y:=i) ah bA (by omega) (by omega) ?_)
     intro h3 ek3 kp3 hn3 rG3 oG3
     have e3:=ek3 _ (aD:Ext (h.push ⟨(x.cs v0 v1 v2 v3 v4 v5 v6 v7 v8 v9 v10),0,0⟩) _) (by simp)
     have hsS:=Mh (k:=i) nk hy heq
     have bt:Bk h3 h2.n [.int .i64 t.op,.int .i64 t.pc,.int .i64 t.s.trace,.int .i64 t.s.id,.int .i64 t.s.start,.int .i64 t.s.fin,.bool t.s.err,va,.int .i64 t.trace,.int .i64 t.stamp,vb,.int .i64 t.h] 0:=bF kp3 aV (yP rG' (Nat.le_refl _))
     (repeat' first|refine vs ?_|(refine br ?_ ?_<;>first|exact bx|intro _)|((with_reducible refine aA zS ?_);(refine aS (OO (t:=t)) ?_ ?_<;>intro hn))|fail)
     all_goals first
      |(refine pf fun k=>?_;obtain⟨-,h5,r5,hl5,-⟩:=k;rw[sS (Gm hlk ht (Gv (by assumption) (by assumption))) (by omega)] at hl5;cases hl5)
      |exact⟨by omega,_,_,_,_,rfl,by omega,aD,aO,by simpa using hlen,qB hlk ht hsS (Bq (by assumption) (by assumption)),ah,bA,upS hu ht hD⟩
      |exact⟨by omega,_,_,_,_,rfl,by omega,aD,aO,by simpa using hlen,qB hlk ht hsS (Br (by assumption)),ah,bA,upS hu ht hD⟩
   ·have hsS:=Mi (k:=i) (hs:=hs') hlt2
    (repeat' first|refine vs ?_|(refine br ?_ ?_<;>first|exact bx|intro _)|((with_reducible refine aA zS ?_);(refine aS (OO (t:=t)) ?_ ?_<;>intro hn))|fail)
    all_goals first
     |(refine pf fun k=>?_;obtain⟨-,h5,r5,hl5,-⟩:=k;rw[sS (Gm hlk ht (Gv (by assumption) (by assumption))) (by omega)] at hl5;cases hl5)
     |exact⟨by omega,_,_,_,_,rfl,by omega,aD,aO,hlen,qB hlk ht hsS (Bq (by assumption) (by assumption)),ah,bA,upS hu ht hD⟩
     |exact⟨by omega,_,_,_,_,rfl,by omega,aD,aO,hlen,qB hlk ht hsS (Br (by assumption)),ah,bA,upS hu ht hD⟩
 ·have ei:i=x.tasks.length:=by omega
  subst ei
  have hu:=kP hu
  (repeat' first|refine vs ?_|refine gS ?_|fail)
  refine aT x.st.length (fun i vs h3=>vs=[.int .i64 (i:Int)]∧i≤x.st.length∧Ext h2 h3∧cu x.st (fun i s=>hs'[i]? =some s.held) i) ⟨rfl,Nat.zero_le _,Ext.refl _,up0⟩ ?_
  rintro i vs h3 _ ⟨rfl,hi3,e3,hu3⟩
  simp only[g0]
  refine vs ?_
  refine br (fun hlt=>?_) (fun NP=>?_)
  ·obtain⟨s,hx,-,-⟩:=aP (show i < x.st.length by omega)
   obtain⟨y,hy,-,-⟩:=aP (show i < hs'.length by omega)
   (repeat' first|refine vs ?_|(refine br ?_ ?_<;>first|exact bx|intro _)|((with_reducible refine aY ?_);((refine ix ?_);first|rintro _ _ _ _ _ ⟨rfl,rfl⟩ _|rintro _ _ _ _ _ ⟨_,rfl,_⟩ _))|fail)
   ·exact pf fun k=>by
     obtain⟨-,h5,r5,hl5,hh,-⟩:=k
     rw[hlk] at hl5;cases hl5
     have:=hh i s hx
     rw[hy] at this;cases this
     contradiction
   ·exact⟨by omega,rfl,by omega,aD,upS hu3 hx (by rw[hy];congr 1;omega)⟩
  ·rw[show i=x.st.length by omega] at hu3
   have hu3:=kP hu3
   (repeat' first|refine vs ?_|(refine br ?_ ?_<;>first|exact bx|intro _)|fail)
   ·exact pt ⟨hu,_,_,hlk,hu3,by assumption⟩
   ·exact pf fun k=>by
     obtain⟨-,h5,r5,hl5,hh,hr⟩:=k
     rw[hlk] at hl5;cases hl5
     contradiction
end Go.Proofs.YtkdjapahgmflbaaGreat
end
section
set_option maxHeartbeats 8000000
namespace Go.Proofs.YtkdjapahgmflbaaGreat
open Go Go.Ab
section
def PY (x0 x1 x2:AV):Prog:=.op (.box x0) fun a=>.op (.fad 22 a) fun b=>Ld 4 b fun b=>.op (.fad 26 a) fun c=>.op (.ld1 c) fun d=>Cl pX [b] fun b=>.chk (.ld1 c) d (.op (.app 3 24 b d) fun b=>.loop [.int .i64 0] (fun a=>Ln 0 b fun c=>Bn .lss (g a 0) c fun c=>.ite c (Ix 3 b (g a 0) fun c=>Lg 0 c fun c=>Bn .eql c x2 fun c=>.gop c true (.mv b) fun b=>.gop c true (.mv (g a 0)) fun d=>.gop c true (.idx 3 b d) fun b=>Gf c true 1 b fun b=>.gop c true (.mv x1) fun d=>.gop c true (.bin 0 .eql b d) fun b=>Pk c b (.bool false) fun b=>.ite b (.fin [.val (.bool true)]) (Bn .add (g a 0) (.int .i64 1) fun a=>.leaf 0 [a])) (.leaf 2 [g a 0])) fun b c=>aB b 1 (.leaf 1 c) (aB b 2 (.loop [.int .i64 0] (fun b=>Lg 29 a fun c=>Ln 0 c fun c=>Bn .lss (g b 0) c fun c=>.ite c (Lg 29 a fun c=>Ix 12 c (g b 0) fun c=>Lg 0 c fun c=>Bn .eql c (.int .i64 2) fun c=>Gf c true 29 a fun d=>.gop c true (.mv (g b 0)) fun e=>.gop c true (.idx 12 d e) fun d=>Gf c true 1 d fun d=>.gop c true (.bin 0 .neq d (.int .i64 3)) fun d=>Pk c d (.bool false) fun c=>Gf c true 29 a fun d=>.gop c true (.mv (g b 0)) fun e=>.gop c true (.idx 12 d e) fun d=>Gf c true 9 d fun d=>.gop c true (.mv x2) fun e=>.gop c true (.bin 0 .eql d e) fun d=>Pk c d (.bool false) fun c=>Gf c true 29 a fun a=>.gop c true (.mv (g b 0)) fun d=>.gop c true (.idx 12 a d) fun a=>Gf c true 8 a fun a=>.gop c true (.mv x1) fun d=>.gop c true (.bin 0 .eql a d) fun a=>Pk c a (.bool false) fun a=>.ite a (.fin [.val (.bool true)]) (Bn .add (g b 0) (.int .i64 1) fun a=>.leaf 0 [a])) (.leaf 4 [g b 0])) fun a b=>aB a 1 (.leaf 1 b) (aB a 4 (.fin [.val (.bool false)]) .bad)) .bad))
theorem ac4 (x0 x1 x2:AV):CC Tryz.prog DN [x0,x1,x2] (PY x0 x1 x2):=cc Tryz.func268 [1,2,3,7,8,9] (fun r=>if r=1 then[(0,[]),(1,[]),(3,[]),(4,[]),(2,[4]),(5,[]),(6,[])] else[])
abbrev aaw (v24:AV) (v23:AV) (v1:AV) (vs8:List AV):Prog:=.op (.st 4 v24 v23) fun _=>Lg 1 v24 fun a=>Lg 31 v1 fun b=>Bn .geq a b fun a=>.gop a false (.ldn 32 v1) fun b=>Gf a false 0 v24 fun c=>Gf a false 1 v24 fun d=>.gop a false (.call DN [b,c,d]) fun b=>.gop a false (.una .not b) fun b=>Pk a (.bool true) b fun a=>.ite a (.fin [.val (.bool false)]) (Bn .add (g vs8 0) (.int .i64 1) fun a=>.leaf 0 [a])
abbrev aav (v73:AV) (v76:AV) (ana:List AV):Prog:=Gf v73 false 1 v76 fun a=>.gop v73 false (.call bQ [a,.int .i64 1,.int .i64 999]) fun a=>.gop v73 false (.una .not a) fun a=>Pk v73 (.bool true) a fun a=>.ite a (.fin [.val (.bool false)]) (Bn .add (g ana 0) (.int .i64 1) fun a=>.leaf 0 [a])
def OY (x0:AV):Prog:=.op (.box x0) fun a=>.loop [.int .i64 0,.tup []] (fun b=>Lg 14 a fun c=>Ln 0 c fun c=>Bn .lss (g b 0) c fun c=>.ite c (.loop [.int .i64 0] (fun c=>Lg 14 a fun d=>Ix 2 d (g b 0) fun d=>Lg 1 d fun d=>Ln 0 d fun d=>Bn .lss (g c 0) d fun d=>.ite d (Lg 14 a fun d=>Ix 2 d (g b 0) fun b=>Lg 1 b fun b=>Ix 4 b (g c 0) fun b=>Ld 4 b fun b=>.op (.alloc [.int .i64 0,.int .i64 0,.int .i64 0,.aC]) fun d=>aaw d b a c) (.leaf 4 [g c 0])) fun a c=>aB a 1 (.leaf 1 c) (aB a 4 (Bn .add (g b 0) (.int .i64 1) fun a=>.leaf 0 [a,g c 0]) .bad)) (.leaf 2 [g b 0,g b 1])) fun b c=>aB b 1 (.leaf 1 c) (aB b 2 (.loop [.int .i64 0] (fun b=>Lg 20 a fun c=>Ln 0 c fun c=>Bn .lss (g b 0) c fun c=>.ite c (Lg 20 a fun c=>Ix 3 c (g b 0) fun c=>Lg 1 c fun c=>Lg 31 a fun a=>Bn .geq c a fun a=>.ite a (.fin [.val (.bool false)]) (Bn .add (g b 0) (.int .i64 1) fun a=>.leaf 0 [a])) (.leaf 6 [g b 0])) fun b c=>aB b 1 (.leaf 1 c) (aB b 6 (.op (.fad 22 a) fun b=>Ld 4 b fun b=>.op (.fad 26 a) fun c=>.op (.ld1 c) fun d=>Cl pX [b] fun b=>.chk (.ld1 c) d (.op (.app 3 24 b d) fun b=>.loop [.int .i64 0] (fun c=>Ln 0 b fun d=>Bn .lss (g c 0) d fun d=>.ite d (Ix 3 b (g c 0) fun d=>Lg 0 d fun d=>Lg 31 a fun a=>Bn .sub a (.int .i64 1) fun a=>Cl bQ [d,.int .i64 1,a] fun a=>.op (.una .not a) fun a=>.gop a false (.mv b) fun b=>.gop a false (.mv (g c 0)) fun d=>.gop a false (.idx 3 b d) fun b=>aav a b c) (.leaf 8 [g c 0])) fun a b=>aB a 1 (.leaf 1 b) (aB a 8 (.fin [.val (.bool true)]) .bad))) .bad)) .bad)
theorem abJ (x0:AV):CC Tryz.prog Dl [x0] (OY x0):=cc Tryz.func160 [1,3,4,6,7,8] (fun r=>if r=13 then[(0,[]),(1,[]),(2,[]),(3,[]),(4,[]),(5,[]),(6,[]),(7,[]),(8,[])] else if r=15 then[(0,[]),(1,[]),(3,[]),(4,[]),(2,[4]),(5,[]),(6,[])] else if r=19 then[(0,[]),(1,[]),(2,[]),(3,[]),(4,[]),(5,[]),(6,[]),(7,[]),(8,[]),(9,[]),(10,[]),(11,[]),(12,[]),(13,[]),(14,[]),(15,[]),(16,[]),(17,[]),(18,[])] else[])
end
def eO (x:Wld):List Ab.Timer:=timers x.w++x.due
def isJ (id stamp:Int) (t:Task):Prop:=t.op=2∧t.pc≠3∧t.stamp=stamp∧t.trace=id
def known (x:Wld) (id stamp:Int):Prop:=(∃ t∈eO x,t.id=stamp∧t.trace=id)∨∃ t∈x.tasks,isJ id stamp t
theorem LV (w:bX):(timers w).length≤Sz.sz w:=by
 have h0:=nI w.near
 have h1:=nI w.far
 have hsz:Sz.sz w=(w.near.length+szs w.near)+(w.far.length+szs w.far)+(w.rest.length+szs w.rest):=rfl
 unfold timers
 simp only[List.length_append];omega
theorem Y6 {α:Type} {l:List α} {p:α→Prop} (h:∀ y∈l,¬ p y): ¬ ∃ y∈l,p y:=fun⟨y,hy,hp⟩=>h y hy hp
theorem acw {h:AH} {x:Wld} {cs:List AV} {F:List Nat} {id stamp:Int} (hs:Sz.sz x≤67108864) (r:Cel.rep h x cs F):
  aM Tryz.prog DN [.agg cs,.int .i64 id,.int .i64 stamp] h (.bool (bp (known x id stamp))):=by
 obtain⟨v0,v1,v2,v3,v4,v5,v6,v7,v8,v9,v10,F0,F1,F2,F3,F4,F5,F6,F7,F8,F9,F10,rfl,rfl,r0,r1,r2,r3,r4,r5,r6,r7,r8,r9,r10⟩:=r
 have hs:Sz.sz x.c+(x.st.length+szs x.st)+(x.cache.length+szs x.cache)+Sz.sz x.w+(x.due.length+szs x.due)+(x.queue.length+szs x.queue)+(x.out.length+szs x.out)+(x.tasks.length+szs x.tasks)+(x.aF.length+szs x.aF)≤67108864:=hs
 have hl9:=r9.small
 have htb:=LV x.w
 refine reader (ac4 _ _ _) (by simp only[old]) ?_
 unfold PY
 (repeat' first|refine vs ?_|fail)
 refine aK (xC (w:=x.w) aO ah ah ah) ?_
 rintro u h1 ⟨e1,G1,q1,o1⟩
 have n1:=e1.1
 simp only[aH] at n1 o1
 refine vs ?_
 refine rD (n:=h.n+1) (xs:=timers x.w) (ys:=x.due) (Fx:=G1) q1 (ah:au _ v6 x.due F6) o1 aO rfl (by omega) (by omega) ?_
 intro v h2 G2 ek kp q2 o2
 have e2:=ek _ e1 (by simp)
 have n2:=e2.1
 simp only[aH] at n2
 have hlen:(timers x.w++x.due).length=(timers x.w).length+x.due.length:=by simp
 clear ek kp
 refine aT (timers x.w++x.due).length (fun i vs h3=>vs=[.int .i64 (i:Int)]∧i≤(timers x.w++x.due).length∧h3=h2∧cu (timers x.w++x.due) (fun _ t=>¬ (t.id=stamp∧t.trace=id)) i) ⟨rfl,Nat.zero_le _,rfl,up0⟩ ?_
 rintro i vs h3 _ ⟨rfl,hi,rfl,hu⟩
 simp only[g0]
 refine vs ?_
 refine br (fun hlt=>?_) (fun hge=>?_)
 ·obtain⟨t,ht,-,-⟩:=aP (show i < (timers x.w++x.due).length by omega)
  (repeat' first|refine vs ?_|(refine br ?_ ?_<;>first|exact bx|intro _)|((with_reducible refine aY ?_);((refine ix ?_);rintro _ _ _ _ _ ⟨rfl,rfl⟩ _))|fail)
  all_goals first
   |exact pt (.inl ⟨t,List.mem_of_getElem? ht,by omega,by omega⟩)
   |exact⟨by omega,rfl,by omega,rfl,upS hu ht (by omega)⟩
 rw[show i=(timers x.w++x.due).length by omega] at hu
 have hu:=fV hu
 (repeat' first|refine vs ?_|fail)
 refine aT x.tasks.length (fun i vs h4=>vs=[.int .i64 (i:Int)]∧i≤x.tasks.length∧h4=h3∧cu x.tasks (fun _ t=>¬ isJ id stamp t) i) ⟨rfl,Nat.zero_le _,rfl,up0⟩ ?_
 clear hi hge
 rintro i vs h4 _ ⟨rfl,hi,rfl,hu2⟩
 simp only[g0]
 refine vs ?_
 refine br (fun hlt=>?_) (fun hge=>?_)
 ·obtain⟨t,ht,-,-⟩:=aP (show i < x.tasks.length by omega)
  (repeat' first|refine vs ?_|(refine br ?_ ?_<;>first|exact bx|intro _)|((with_reducible refine aY ?_);((refine ix ?_);rintro _ _ _ _ _ ⟨_,_,_,_,rfl,rfl,_,_⟩ _))|fail)
  all_goals first
   |exact pt (.inr ⟨t,List.mem_of_getElem? ht,by unfold isJ;omega⟩)
   |exact⟨by omega,rfl,by omega,rfl,upS hu2 ht (by unfold isJ;omega)⟩
 rw[show i=x.tasks.length by omega] at hu2
 have hu2:=fV hu2
 (repeat' first|refine vs ?_|fail)
 refine pf ?_
 rintro(k|k)
 ·exact Y6 hu k
 ·exact Y6 hu2 k
def Xk (x:Wld):Prop:=(∀ (i:Nat) (s:aQ),x.st[i]? =some s→∀ t∈s.l,t.stamp < x.next∧known x t.id t.stamp)∧(∀ v∈x.cache,v.stamp < x.next)∧∀ t∈eO x,(1≤t.id∧t.id≤x.next - 1)∧(1≤t.trace∧t.trace≤999)
theorem aa6 {h:AH} {x:Wld} {cs:List AV} {F:List Nat} (hnx:1≤x.next) (ok:Cel.ok x) (hs:Sz.sz x≤67108864) (r:Cel.rep h x cs F):
  aM Tryz.prog Dl [.agg cs] h (.bool (bp (Xk x))):=by
 have hs0:=hs
 obtain⟨v0,v1,v2,v3,v4,v5,v6,v7,v8,v9,v10,F0,F1,F2,F3,F4,F5,F6,F7,F8,F9,F10,rfl,rfl,r0,r1,r2,r3,r4,r5,r6,r7,r8,r9,r10⟩:=r
 obtain⟨wK,Bw,wF,Az,Cv,yx,Bv,Cu,BN,sZ,wh,vK,Bl,vT⟩:=ok
 have hs:Sz.sz x.c+(x.st.length+szs x.st)+(x.cache.length+szs x.cache)+Sz.sz x.w+(x.due.length+szs x.due)+(x.queue.length+szs x.queue)+(x.out.length+szs x.out)+(x.tasks.length+szs x.tasks)+(x.aF.length+szs x.aF)≤67108864:=hs
 have vT: -9223372036854775808≤x.next∧x.next≤9223372036854775807:=vT
 have hl1:=r1.small
 have hl2:=r2.small
 have htb:=LV x.w
 refine reader (abJ _) (by simp only[old]) ?_
 unfold OY
 (repeat' first|refine vs ?_|fail)
 refine aT x.st.length (fun i vs h1=>∃ z,vs=[.int .i64 (i:Int),z]∧i≤x.st.length∧Ext (h.push ⟨(x.cs v0 v1 v2 v3 v4 v5 v6 v7 v8 v9 v10),0,0⟩) h1∧cu x.st (fun _ s=>∀ t∈s.l,t.stamp < x.next∧known x t.id t.stamp) i) ⟨_,rfl,Nat.zero_le _,aD,up0⟩ ?_
 rintro i vs h1 _ ⟨z,rfl,hi,e1,hu⟩
 simp only[g0,g1]
 refine vs ?_
 refine br (fun hlt=>?_) (fun hge=>?_)
 ·obtain⟨s,hx,-,-⟩:=aP (show i < x.st.length by omega)
  have hm:=bC (List.mem_of_getElem? hx)
  have hx2:Sz.sz s=s.l.length+szs s.l:=rfl
  refine vs ?_
  refine aT s.l.length (fun k vs h2=>vs=[.int .i64 (k:Int)]∧k≤s.l.length∧Ext h1 h2∧cu s.l (fun _ t=>t.stamp < x.next∧known x t.id t.stamp) k) ⟨rfl,Nat.zero_le _,Ext.refl _,up0⟩ ?_
  rintro k vs h2 _ ⟨rfl,hk,e2,hu2⟩
  simp only[g0]
  refine vs ?_
  refine bV r1 hx rfl ?_
  rintro b o _ Fi a ⟨vs1,rfl,rs⟩ _
  refine vs ?_
  refine br (fun hlt2=>?_) (fun nk=>?_)
  ·obtain⟨t,ht,-,-⟩:=aP (show k < s.l.length by omega)
   (repeat' first|refine vs ?_|(refine br ?_ ?_<;>first|exact bx|intro _)|((with_reducible refine aA DN ?_);(refine aS (acw (x:=x) hs0 ⟨_,_,_,_,_,_,_,_,_,_,_,_,_,_,_,_,_,_,_,_,_,_,rfl,rfl,ah,ah,ah,ah,ah,ah,ah,ah,ah,ah,ah⟩) ?_ ?_<;>intro hn))|((with_reducible refine aY ?_);((refine ix ?_);rintro _ _ _ _ _ ⟨_,rfl,_⟩ _))|fail)
   all_goals first
    |(refine pf fun kk=>?_;have kk:=kk.1 i s hx t (List.mem_of_getElem? ht);first|omega|exact absurd kk.2 (by assumption))
    |exact⟨by omega,rfl,by omega,aD,upS hu2 ht ⟨by omega,by assumption⟩⟩
  ·rw[show k=s.l.length by omega] at hu2
   have hu2:=fV hu2
   (repeat' first|refine vs ?_|fail)
   exact⟨by omega,_,rfl,by omega,aD,upS hu hx hu2⟩
 rw[show i=x.st.length by omega] at hu
 have hA:=kP hu
 clear hu hi hge
 (repeat' first|refine vs ?_|fail)
 refine aT x.cache.length (fun i vs h2=>vs=[.int .i64 (i:Int)]∧i≤x.cache.length∧h2=h1∧cu x.cache (fun _ v=>v.stamp < x.next) i) ⟨rfl,Nat.zero_le _,rfl,up0⟩ ?_
 rintro i vs h2 _ ⟨rfl,hi,rfl,hu⟩
 simp only[g0]
 refine vs ?_
 refine br (fun hlt=>?_) (fun hge=>?_)
 ·obtain⟨t,ht,-,-⟩:=aP (show i < x.cache.length by omega)
  (repeat' first|refine vs ?_|(refine br ?_ ?_<;>first|exact bx|intro _)|((with_reducible refine aY ?_);((refine ix ?_);rintro _ _ _ _ _ ⟨rfl,rfl⟩ _))|fail)
  all_goals first
   |(refine pf fun kk=>?_;have kk:=kk.2.1 t (List.mem_of_getElem? ht);omega)
   |exact⟨by omega,rfl,by omega,rfl,upS hu ht (by omega)⟩
 rw[show i=x.cache.length by omega] at hu
 have hB:=fV hu
 clear hu hi hge
 (repeat' first|refine vs ?_|fail)
 refine aK (xC (w:=x.w) aO ah ah ah) ?_
 rintro u h3 ⟨e3,G1,q1,o1⟩
 have n1:=e1.1
 have n3:=e3.1
 simp only[aH] at n1
 refine vs ?_
 refine rD (n:=h.n+1) (xs:=timers x.w) (ys:=x.due) (Fx:=G1) q1 (ah:au _ v6 x.due F6) (o1.mono (by omega) fun _ _=>rfl) aO rfl (by omega) (by omega) ?_
 intro v h4 G2 ek kp q2 o2
 have e4:=ek _ (aD:Ext (h.push ⟨(x.cs v0 v1 v2 v3 v4 v5 v6 v7 v8 v9 v10),0,0⟩) h3) (by simp)
 have n4:=e4.1
 simp only[aH] at n4
 have hlen:(timers x.w++x.due).length=(timers x.w).length+x.due.length:=by simp
 clear ek kp
 refine aT (timers x.w++x.due).length (fun i vs h5=>vs=[.int .i64 (i:Int)]∧i≤(timers x.w++x.due).length∧h5=h4∧cu (timers x.w++x.due) (fun _ t=>(1≤t.id∧t.id≤x.next - 1)∧(1≤t.trace∧t.trace≤999)) i) ⟨rfl,Nat.zero_le _,rfl,up0⟩ ?_
 rintro i vs h5 _ ⟨rfl,hi,rfl,hu⟩
 simp only[g0]
 refine vs ?_
 refine br (fun hlt=>?_) (fun hge=>?_)
 ·obtain⟨t,ht,-,-⟩:=aP (show i < (timers x.w++x.due).length by omega)
  (repeat' first|refine vs ?_|((with_reducible refine aA bQ ?_);(refine bU (jr) ?_ ?_<;>intro hb<;>(first|replace hb:=dx hb|replace hb:=dz hb)))|((with_reducible refine aY ?_);((refine ix ?_);rintro _ _ _ _ _ ⟨rfl,rfl⟩ _))|fail)
  all_goals first
   |(refine pf fun kk=>?_;have kk:=kk.2.2 t (List.mem_of_getElem? ht);omega)
   |exact⟨by omega,rfl,by omega,rfl,upS hu ht (by omega)⟩
 rw[show i=(timers x.w++x.due).length by omega] at hu
 have hC:=fV hu
 (repeat' first|refine vs ?_|fail)
 exact pt ⟨hA,hB,hC⟩
end Go.Proofs.YtkdjapahgmflbaaGreat
end
section
set_option maxHeartbeats 8000000
namespace Go.Proofs.YtkdjapahgmflbaaGreat
open Go Go.Ab
section
def OI (x0 x1:AV):Prog:=.op (.box x0) fun a=>Lg 0 a fun b=>Lg 1 x1 fun c=>Bn .eql b c fun b=>Gf b true 1 a fun a=>Gf b true 0 x1 fun c=>.gop b true (.bin 0 .eql a c) fun a=>Pk b a (.bool false) fun a=>.fin [.val a]
theorem aa1 (x0 x1:AV):CC Tryz.prog Ji [x0,x1] (OI x0 x1):=cc Tryz.func223
def OH (x0 x1:AV):Prog:=Lg 31 x1 fun a=>Bn .geq x0 a fun a=>.fin [.val a]
theorem aa0 (x0 x1:AV):CC Tryz.prog Jh [x0,x1] (OH x0 x1):=cc Tryz.func225
def Oh (x0 x1:AV):Prog:=Cl uJ [x0,x1] fun a=>Bn .geq a (.int .i64 0) fun a=>.fin [.val a]
theorem ZH (x0 x1:AV):CC Tryz.prog CP [x0,x1] (Oh x0 x1):=cc Tryz.func222
def Ot (x0 x1:AV):Prog:=Ln 0 x0 fun a=>.loop [.int .i64 0] (fun b=>Bn .lss (g b 0) a fun a=>.ite a (Ix 1 x0 (g b 0) fun a=>.op (.ld1 a) fun a=>.op (.iC x1 [a]) fun a=>.ite a (.fin [.val (g b 0)]) (Bn .add (g b 0) (.int .i64 1) fun a=>.leaf 0 [a])) (.leaf 2 [g b 0])) fun a b=>aB a 1 (.leaf 1 b) (aB a 2 (.fin [.val (.int .i64 (-1))]) .bad)
theorem aah (x0 x1:AV):CC Tryz.prog CY [x0,x1] (Ot x0 x1):=cc Tryz.func316 [0,1,7,8] (fun _=>[])
def Om (x0 x1:AV):Prog:=Cl CY [x0,x1] fun a=>Bn .geq a (.int .i64 0) fun a=>.fin [.val a]
theorem ZT (x0 x1:AV):CC Tryz.prog CU [x0,x1] (Om x0 x1):=cc Tryz.func224
abbrev aaR (v46:AV) (zu:List AV) (v44:AV):Prog:=.op (.ld1 v46) fun a=>.op (.aU 1 1 [.int .i64 0] [(0,1,a)]) fun a=>.op (.app 1 8 (g zu 0) a) fun a=>Lg 0 v44 fun b=>Bn .eql b (.int .i64 2) fun b=>Gf b true 1 v44 fun c=>.gop b true (.bin 0 .neq c (.int .i64 3)) fun c=>Pk b c (.bool false) fun b=>.scope (.ite b (Lg 9 v44 fun a=>Lg 8 v44 fun b=>.op (.build [.int .i64 0,.int .i64 0,.int .i64 0] [(0,1,a),(1,1,b)]) fun a=>.op (.aU 3 1 [.int .i64 0,.int .i64 0,.int .i64 0] [(0,3,a)]) fun a=>.op (.app 3 24 (g zu 1) a) fun a=>.leaf 0 [a]) (.leaf 0 [g zu 1])) (fun b=>Bn .add (g zu 2) (.int .i64 1) fun c=>.leaf 0 [a,g b 0,c]) fun a b=>aB a 1 (.leaf 1 b) .bad
abbrev aaQ (v74:AV) (Y4:List AV) (zu:List AV):Prog:=Ld 4 v74 fun a=>.op (.alloc [.int .i64 0,.int .i64 0,.int .i64 0,.aC]) fun b=>.op (.st 4 b a) fun _=>Lg 1 b fun a=>.op (.aU 1 1 [.int .i64 0] [(0,1,a)]) fun a=>.op (.app 1 8 (g Y4 0) a) fun a=>.op (.kr Ji [b]) fun b=>Cl CP [g zu 1,b] fun b=>.op (.una .not b) fun b=>.ite b (.fin [.val (.bool false)]) (Bn .add (g Y4 1) (.int .i64 1) fun b=>.leaf 0 [a,b])
def Ql (x0:AV):Prog:=.op (.box x0) fun a=>.op (.fad 22 a) fun b=>Ld 4 b fun b=>.op (.fad 26 a) fun c=>.op (.ld1 c) fun d=>Cl vw [b] fun b=>.chk (.ld1 c) d (.op (.app 3 24 b d) fun b=>Ln 0 b fun c=>.loop [.aC,.int .i64 0] (fun a=>Bn .lss (g a 1) c fun c=>.ite c (Ix 3 b (g a 1) fun b=>Ld 3 b fun b=>.op (.alloc [.int .i64 0,.int .i64 0,.int .i64 0]) fun c=>.op (.st 3 c b) fun _=>Lg 0 c fun b=>.op (.aU 1 1 [.int .i64 0] [(0,1,b)]) fun b=>.op (.app 1 8 (g a 0) b) fun b=>Bn .add (g a 1) (.int .i64 1) fun a=>.leaf 0 [b,a]) (.leaf 2 [g a 0,g a 1])) fun c d=>aB c 1 (.leaf 1 d) (aB c 2 (Lg 20 a fun c=>Ln 0 c fun e=>.loop [g d 0,.int .i64 0] (fun a=>Bn .lss (g a 1) e fun b=>.ite b (Ix 3 c (g a 1) fun b=>Ld 3 b fun b=>.op (.alloc [.int .i64 0,.int .i64 0,.bool false]) fun c=>.op (.st 3 c b) fun _=>Lg 1 c fun b=>.op (.aU 1 1 [.int .i64 0] [(0,1,b)]) fun b=>.op (.app 1 8 (g a 0) b) fun b=>Bn .add (g a 1) (.int .i64 1) fun a=>.leaf 0 [b,a]) (.leaf 4 [g a 0,g a 1])) fun c d=>aB c 1 (.leaf 1 d) (aB c 4 (Lg 29 a fun c=>Ln 0 c fun e=>.loop [g d 0,b,.int .i64 0] (fun a=>Bn .lss (g a 2) e fun b=>.ite b (Ix 12 c (g a 2) fun b=>Ld 12 b fun b=>.op (.alloc gJ) fun c=>.op (.st 12 c b) fun _=>.op (.fad 9 c) fun b=>aaR b a c) (.leaf 6 [g a 0,g a 1,g a 2])) fun b c=>aB b 1 (.leaf 1 c) (aB b 6 (Lg 14 a fun b=>Cl zZ [b] fun b=>Ln 0 b fun d=>.loop [g c 0,.int .i64 0] (fun a=>Bn .lss (g a 1) d fun d=>.ite d (Ix 4 b (g a 1) fun b=>aaQ b a c) (.leaf 8 [g a 0,g a 1])) fun b c=>aB b 1 (.leaf 1 c) (aB b 8 (.op (.kr Jh [a]) fun a=>Cl CU [g c 0,a] fun a=>.op (.una .not a) fun a=>.fin [.val a]) .bad)) .bad)) .bad)) .bad))
theorem adw (x0:AV):CC Tryz.prog D5 [x0] (Ql x0):=cc Tryz.func116 [1,3,4,19,20,21,32,33,34,45,46,47,75,76,77] (fun r=>if r=2 then[(0,[]),(1,[]),(3,[]),(4,[]),(2,[4]),(5,[]),(6,[])] else[])
end
def zC (id stamp:Int) (t:Ab.Timer):Bool:=decide (t.id=stamp∧t.trace=id)
theorem ahW {h:AH} {b:Nat} {t:Trail} {v:AV} (a:At h b 0 (t.cs v)):Looks Ab.Timer Tryz.prog h Ji [.ptr b 0] (zC t.id t.stamp):=by
 rintro y cs F ⟨rfl,rfl⟩
 refine reader (aa1 _ _) (by simp only[old]) ?_
 unfold OI
 (repeat' first|refine vs ?_|(refine br ?_ ?_<;>first|exact bx|intro _)|fail)
 all_goals(refine pb ?_;simp[zC];omega)
theorem ZE {h:AH} {xs:List Ab.Timer} {x0:AV} {F:List Nat} {f:FuncId} {caps:List AV} {p:Ab.Timer→Bool} (r:au h x0 xs F) (hf:Looks Ab.Timer Tryz.prog h f caps p):
  aM Tryz.prog CP [x0,.fn f caps] h (.bool (bp (∃ x∈xs,p x=true))):=by
 refine reader (ZH _ _) (by simp only[old]) ?_
 unfold Oh
 (repeat' first|refine vs ?_|(refine br ?_ ?_<;>first|exact bx|intro _)|((with_reducible refine aA uJ ?_);refine aJ (Ja ah hf) ?_)|fail)
 ·exact pt (pz.1 (by assumption))
 ·exact pf fun k=>absurd (pz.2 k) (by assumption)
theorem ahV {h:AH} {b:Nat} {x:Wld} {v0 v1 v2 v3 v4 v5 v6 v7 v8 v9 v10:AV} {n:Int} (a:At h b 0 (x.cs v0 v1 v2 v3 v4 v5 v6 v7 v8 v9 v10)):aM Tryz.prog Jh [.int .i64 n,.ptr b 0] h (.bool (decide (n ≥ x.next))):=by
 refine reader (aa0 _ _) (by simp only[old]) ?_
 unfold OH
 (repeat' first|refine vs ?_|(refine br ?_ ?_<;>first|exact bx|intro _)|fail)
 all_goals(refine pb ?_;simp;omega)
theorem aae {h:AH} {xs:List Int} {x0:AV} {F:List Nat} {f:FuncId} {caps:List AV} {p:Int→Bool} (r:au h x0 xs F) (hf:∀ n,aM Tryz.prog f (.int .i64 n::caps) h (.bool (p n))):
  aM Tryz.prog CY [x0,.fn f caps] h (.int .i64 (idx p xs)):=by
 refine reader (aah _ _) (by simp only[old]) ?_
 unfold Ot
 have hsm:=r.small
 refine bP r ?_
 refine aT xs.length (fun i vs h1=>vs=[.int .i64 (i:Int)]∧i≤xs.length∧h1=h∧∀ j y,j < i→xs[j]? =some y→p y=false) ⟨rfl,Nat.zero_le _,rfl,fun j y hj=>by omega⟩ ?_
 rintro i vs h1 _ ⟨rfl,hi,rfl,hn⟩
 simp only[g0]
 refine br (fun hlt=>?_) (fun hge=>?_)
 ·obtain⟨x,hx,-,htk⟩:=aP (show i < xs.length by omega)
  refine dM (bV r hx rfl ?_)
  rintro bb o _ Fi a ⟨rfl,rfl⟩ _
  refine vF a (Ext.refl _) (sU (hf x) (yT ?_ ?_))
  ·intro hp
   exact eY (pi (by rw[wu hx hp hn]))
  ·intro hp
   (repeat' first|refine vs ?_|fail)
   refine⟨by omega,rfl,by omega,rfl,fun j y hj hy=>?_⟩
   by_cases e:j=i
   ·subst e;rw[hx] at hy;cases hy;exact hp
   ·exact hn j y (by omega) hy
 ·have e:i=xs.length:=by omega
  subst e
  (repeat' first|refine vs ?_|fail)
  exact pi (BO hn).symm
theorem ZP {h:AH} {xs:List Int} {x0:AV} {F:List Nat} {f:FuncId} {caps:List AV} {p:Int→Bool} (r:au h x0 xs F) (hf:∀ n,aM Tryz.prog f (.int .i64 n::caps) h (.bool (p n))):
  aM Tryz.prog CU [x0,.fn f caps] h (.bool (bp (∃ x∈xs,p x=true))):=by
 refine reader (ZT _ _) (by simp only[old]) ?_
 unfold Om
 (repeat' first|refine vs ?_|(refine br ?_ ?_<;>first|exact bx|intro _)|((with_reducible refine aA CY ?_);refine aJ (aae ah hf) ?_)|fail)
 ·exact pt (pz.1 (by assumption))
 ·exact pf fun k=>absurd (pz.2 k) (by assumption)
end Go.Proofs.YtkdjapahgmflbaaGreat
end
section
set_option maxHeartbeats 8000000
namespace Go.Proofs.YtkdjapahgmflbaaGreat
open Go Go.Ab
def Cq (t:Task):Ab.Timer:=⟨t.stamp,t.trace,0⟩
def judges (l:List Task):List Ab.Timer:=(l.filter fun t=>decide (t.op=2∧t.pc≠3)).map Cq
theorem akA {l:List Task} {i:Nat} {t:Task} (htk:l.take (i+1)=l.take i++[t]) (h:t.op=2∧t.pc≠3):judges (l.take (i+1))=judges (l.take i)++[Cq t]:=by
 rw[htk];unfold judges;rw[List.filter_append,List.map_append];congr 1;simp[h]
theorem akB {l:List Task} {i:Nat} {t:Task} (htk:l.take (i+1)=l.take i++[t]) (h: ¬ (t.op=2∧t.pc≠3)):judges (l.take (i+1))=judges (l.take i):=by
 rw[htk];unfold judges;rw[List.filter_append,List.map_append];simp[h]
theorem ajn (l:List Task) (i:Nat):(judges (l.take i)).length≤l.length:=by
 unfold judges
 have h1:=List.length_filter_le (fun t:Task=>decide (t.op=2∧t.pc≠3)) (l.take i)
 have h2:=List.length_take_le' i l
 rw[List.length_map];omega
theorem VN {x:Wld} {id stamp:Int}:(∃ y∈eO x++judges x.tasks,zC id stamp y=true)↔known x id stamp:=by
 constructor
 ·rintro⟨y,hy,hp⟩
  simp only[zC,decide_eq_true_eq] at hp
  rcases List.mem_append.1 hy with hy|hy
  ·exact .inl ⟨y,hy,hp⟩
  ·unfold judges at hy
   obtain⟨t,ht,rfl⟩:=List.mem_map.1 hy
   obtain⟨hm,hq⟩:=List.mem_filter.1 ht
   simp only[decide_eq_true_eq] at hq
   exact .inr ⟨t,hm,hq.1,hq.2,hp.1,hp.2⟩
 ·rintro(⟨y,hy,hp⟩|⟨t,ht,h1,h2,h3,h4⟩)
  ·exact⟨y,List.mem_append_left _ hy,by simp[zC,hp]⟩
  ·refine⟨Cq t,List.mem_append_right _ ?_,by simp[zC,Cq,h3,h4]⟩
   unfold judges
   exact List.mem_map.2 ⟨t,List.mem_filter.2 ⟨ht,by simp[h1,h2]⟩,rfl⟩
theorem Il {α β:Type} (f:α→β) {l:List α} {i:Nat} {x:α} (htk:l.take (i+1)=l.take i++[x]):(l.take (i+1)).map f=(l.take i).map f++[f x]:=by rw[htk,List.map_append];rfl
theorem Im {α β:Type} (f:α→β) (l:List α) (i:Nat):((l.take i).map f).length≤l.length:=by rw[List.length_map];exact List.length_take_le' i l
def Gw (x:Wld):List Int:=(eO x).map (·.id)++(x.cache.map (·.stamp)++(x.tasks.map (·.stamp)++(allT x.st).map (·.stamp)))
def Xl (x:Wld):Prop:=(∀ t∈allT x.st,known x t.id t.stamp)∧∀ n∈Gw x,n < x.next
theorem acL {h:AH} {x:Wld} {cs:List AV} {F:List Nat} (hs:Sz.sz x≤67108864) (r:Cel.rep h x cs F):
  aM Tryz.prog D5 [.agg cs] h (.bool (bp (Xl x))):=by
 obtain⟨v0,v1,v2,v3,v4,v5,v6,v7,v8,v9,v10,F0,F1,F2,F3,F4,F5,F6,F7,F8,F9,F10,rfl,rfl,r0,r1,r2,r3,r4,r5,r6,r7,r8,r9,r10⟩:=r
 have hs:Sz.sz x.c+(x.st.length+szs x.st)+(x.cache.length+szs x.cache)+Sz.sz x.w+(x.due.length+szs x.due)+(x.queue.length+szs x.queue)+(x.out.length+szs x.out)+(x.tasks.length+szs x.tasks)+(x.aF.length+szs x.aF)≤67108864:=hs
 have hl2:=r2.small
 have hl9:=r9.small
 have htb:=LV x.w
 have hab:=wC x.st
 refine reader (adw _) (by simp only[old]) ?_
 unfold Ql
 (repeat' first|refine vs ?_|fail)
 refine aK (EW (w:=x.w) aO ah ah ah) ?_
 rintro u h1 ⟨e1,G1,q1,o1⟩
 have n1:=e1.1
 simp only[aH] at n1 o1
 refine vs ?_
 refine rD (n:=h.n+1) (xs:=timers x.w) (ys:=x.due) (Fx:=G1) q1 (ah:au _ v6 x.due F6) o1 aO rfl (by omega) (by omega) ?_
 intro v h4 T kp0 kp q2 o2
 have e4:=kp0 _ e1 (by simp)
 have n4:=e4.1
 simp only[aH] at n4
 have hlen:(timers x.w++x.due).length=(timers x.w).length+x.due.length:=by simp
 clear kp0 kp e1 n1 q1 o1
 change au h4 v (eO x) T at q2
 have hlen:(eO x).length=(timers x.w).length+x.due.length:=hlen
 have hsm:=q2.small
 refine vs ?_
 refine aT (eO x).length (fun i vs h5=>∃ u G,vs=[u,.int .i64 (i:Int)]∧i≤(eO x).length∧Ext h4 h5∧au h5 u (((eO x).take i).map (·.id)) G∧Own h4.n h5 G) ⟨_,_,rfl,Nat.zero_le _,Ext.refl _,au.aC,Own.nil⟩ ?_
 rintro i vs h5 _ ⟨u,G,rfl,hi,e5,ru,ou⟩
 have n5:=e5.1
 simp only[g0,g1]
 have hml:=Im (·.id) (eO x) i
 refine br (fun hlt=>?_) (fun hge=>?_)
 ·obtain⟨t,ht,-,htk⟩:=aP (show i < (eO x).length by omega)
  (repeat' first|refine vs ?_|((with_reducible refine aY ?_);((refine ix ?_);rintro _ _ _ _ _ ⟨rfl,rfl⟩ _))|fail)
  refine iJ (n:=h4.n) (xs:=((eO x).take i).map (·.id)) (a:=t.id) (G:=[]) ah ⟨rfl,rfl⟩ (by rw[List.append_nil];exact bA) aO rfl (by omega) (by omega) ?_
  intro v' h' F' ek kp r' o' _
  (repeat' first|refine vs ?_|fail)
  exact⟨by omega,v',F',rfl,by omega,ek _ aD (Nat.le_refl _),by rw[Il _ htk];exact r',o'⟩
 have ei:i=(eO x).length:=by omega
 subst ei
 rw[List.take_length] at ru
 clear hml hi hge
 (repeat' first|refine vs ?_|refine gS ?_|fail)
 refine aT x.cache.length (fun i vs h6=>∃ u G,vs=[u,.int .i64 (i:Int)]∧i≤x.cache.length∧Ext h4 h6∧au h6 u ((eO x).map (·.id)++(x.cache.take i).map (·.stamp)) G∧Own h4.n h6 G) ⟨u,G,rfl,Nat.zero_le _,e5,by simpa using ru,ou⟩ ?_
 clear ru ou e5 n5
 rintro i vs h6 _ ⟨u,G,rfl,hi,e5,ru,ou⟩
 have n5:=e5.1
 simp only[g0,g1]
 have hml:=Im (·.stamp) x.cache i
 have hll:((eO x).map (·.id)++(x.cache.take i).map (·.stamp)).length=(eO x).length+((x.cache.take i).map (·.stamp)).length:=by simp
 refine br (fun hlt=>?_) (fun hge=>?_)
 ·obtain⟨t,ht,-,htk⟩:=aP (show i < x.cache.length by omega)
  (repeat' first|refine vs ?_|((with_reducible refine aY ?_);((refine ix ?_);rintro _ _ _ _ _ ⟨rfl,rfl⟩ _))|fail)
  refine iJ (n:=h4.n) (xs:=(eO x).map (·.id)++(x.cache.take i).map (·.stamp)) (a:=t.stamp) (G:=[]) ah ⟨rfl,rfl⟩ (by rw[List.append_nil];exact bA) aO rfl (by omega) (by omega) ?_
  intro v' h' F' ek kp r' o' _
  (repeat' first|refine vs ?_|fail)
  exact⟨by omega,v',F',rfl,by omega,ek _ aD (Nat.le_refl _),by rw[Il _ htk,←List.append_assoc];exact r',o'⟩
 have ei:i=x.cache.length:=by omega
 subst ei
 rw[List.take_length] at ru
 clear hml hll hi hge
 (repeat' first|refine vs ?_|refine gS ?_|fail)
 have hGT:∀ c∈G,c ∉ T:=WW ou q2 (Nat.le_refl _)
 refine aT x.tasks.length (fun i vs h7=>∃ u G w T,vs=[u,w,.int .i64 (i:Int)]∧i≤x.tasks.length∧Ext (h.push ⟨(x.cs v0 v1 v2 v3 v4 v5 v6 v7 v8 v9 v10),0,0⟩) h7∧au h7 u ((eO x).map (·.id)++(x.cache.map (·.stamp)++(x.tasks.take i).map (·.stamp))) G∧Own (h.n+1) h7 G∧au h7 w (eO x++judges (x.tasks.take i)) T∧Own (h.n+1) h7 T∧∀ c∈G,c ∉ T) ⟨u,G,v,T,rfl,Nat.zero_le _,aD,by simpa using ru,ou.mono (by omega) fun _ _=>rfl,by simpa[judges] using(ah:au h6 v (eO x) T),bA,hGT⟩ ?_
 clear ru ou e5 n5 hGT q2 o2
 rintro i vs h7 _ ⟨u,G,w,T,rfl,hi,e7,ru,ou,rw',ow,hGT⟩
 have n7:=e7.1
 simp only[aH] at n7
 simp only[g0,g1,g2]
 have hml:=Im (·.stamp) x.tasks i
 have hjl:=ajn x.tasks i
 have hll:((eO x).map (·.id)++(x.cache.map (·.stamp)++(x.tasks.take i).map (·.stamp))).length=(eO x).length+(x.cache.length+((x.tasks.take i).map (·.stamp)).length):=by simp
 have hlw:(eO x++judges (x.tasks.take i)).length=(eO x).length+(judges (x.tasks.take i)).length:=by simp
 refine br (fun hlt=>?_) (fun hge=>?_)
 ·obtain⟨t,ht,-,htk⟩:=aP (show i < x.tasks.length by omega)
  refine vs ?_
  refine bV r9 ht rfl ?_
  rintro b o _ Fi a ⟨va,vb,Fa,Fb,rfl,rfl,ra,rb⟩ _
  (repeat' first|refine vs ?_|refine gS ?_|fail)
  refine iJ (n:=h.n+1) (xs:=(eO x).map (·.id)++(x.cache.map (·.stamp)++(x.tasks.take i).map (·.stamp))) (a:=t.stamp) (G:=[]) ah ⟨rfl,rfl⟩ (by rw[List.append_nil];exact bA) aO rfl (by omega) (by omega) ?_
  intro v' h8 F' ek kp r' o' hF
  have e8:=ek _ (aD:Ext (h.push ⟨(x.cs v0 v1 v2 v3 v4 v5 v6 v7 v8 v9 v10),0,0⟩) _) (by simp)
  have n8:=kp.1
  simp only[aH] at n8
  have bt:Bk h8 h7.n [.int .i64 t.op,.int .i64 t.pc,.int .i64 t.s.trace,.int .i64 t.s.id,.int .i64 t.s.start,.int .i64 t.s.fin,.bool t.s.err,va,.int .i64 t.trace,.int .i64 t.stamp,vb,.int .i64 t.h] 0:=bF kp aV (yP ru (Nat.le_refl _))
  have w8:au h8 w (eO x++judges (x.tasks.take i)) T:=aL kp ah fun c hc hg=>hGT c hg hc
  have ow8:Own (h.n+1) h8 T:=(dD kp cK fun c hc hg=>hGT c hg hc).1
  have hd8:∀ c∈F',c ∉ T:=fun c hc hT=>by
   rcases hF c hc with h1|h1|h1
   ·exact hGT c h1 hT
   ·cases h1
   ·have:=rw'.lt c hT
    simp only[aH] at h1;omega
  rw[List.append_assoc,List.append_assoc,←Il (fun t:Task=>t.stamp) htk] at r'
  clear ek kp hF ru ou rw' ow hGT
  (repeat' first|refine vs ?_|(refine br ?_ ?_<;>first|exact bx|intro _)|fail)
  all_goals first
   |exact⟨by omega,v',F',w,T,rfl,by omega,aD,r',o',by rw[akB htk (by omega)];exact w8,ow8,hd8⟩
   |skip
  refine iJ (n:=h.n+1) (xs:=eO x++judges (x.tasks.take i)) (a:=Cq t) (G:=[]) ah ⟨rfl,rfl⟩ (by rw[List.append_nil];exact bA) aO rfl (by omega) (by omega) ?_
  intro w' h9 T' ek kp rT oT hT
  have e9:=ek _ (aD:Ext (h.push ⟨(x.cs v0 v1 v2 v3 v4 v5 v6 v7 v8 v9 v10),0,0⟩) _) (by simp)
  have n9:=kp.1
  have u9:au h9 v' _ F':=aL kp ah hd8
  have ou9:Own (h.n+1) h9 F':=(dD kp cK hd8).1
  have hd9:∀ c∈F',c ∉ T':=fun c hc hTc=>by
   rcases hT c hTc with h1|h1|h1
   ·exact hd8 c hc h1
   ·cases h1
   ·have:=r'.lt c hc
    (try simp only[aH] at h1);omega
  rw[List.append_assoc,←akA htk (by omega)] at rT
  (repeat' first|refine vs ?_|fail)
  exact⟨by omega,v',F',w',T',rfl,by omega,e9,u9,ou9,rT,oT,hd9⟩
 have ei:i=x.tasks.length:=by omega
 subst ei
 rw[List.take_length] at ru rw'
 clear hml hjl hll hlw hi hge
 (repeat' first|refine vs ?_|refine gS ?_|fail)
 refine aK (Jo (l:=x.st) aO ah) ?_
 rintro vL h8 ⟨e8,FL,qL,oL⟩
 have n8:=e8.1
 have hGL:∀ c∈G,c ∉ FL:=XU ru oL (Nat.le_refl _)
 refine bP qL ?_
 have hsL:=qL.small
 refine aT (allT x.st).length (fun i vs h9=>∃ u G,vs=[u,.int .i64 (i:Int)]∧i≤(allT x.st).length∧Ext (h.push ⟨(x.cs v0 v1 v2 v3 v4 v5 v6 v7 v8 v9 v10),0,0⟩) h9∧au h9 u ((eO x).map (·.id)++(x.cache.map (·.stamp)++(x.tasks.map (·.stamp)++((allT x.st).take i).map (·.stamp)))) G∧Own (h.n+1) h9 G∧au h9 w (eO x++judges x.tasks) T∧au h9 vL (allT x.st) FL∧(∀ c∈G,c ∉ T)∧(∀ c∈G,c ∉ FL)∧cu (allT x.st) (fun _ t=>known x t.id t.stamp) i) ⟨u,G,rfl,Nat.zero_le _,aD,by simpa using(ah:au h8 u _ G),bA,ah,qL,hGT,hGL,up0⟩ ?_
 clear e8 n8 oL hGL qL ru ou rw' ow hGT e7 n7
 rintro i vs h9 _ ⟨u,G,rfl,hi,e9,ru,ou,rw',rL,hGT,hGL,hu⟩
 have n9:=e9.1
 simp only[aH] at n9
 simp only[g0,g1]
 have hml:=Im (·.stamp) (allT x.st) i
 have hll:((eO x).map (·.id)++(x.cache.map (·.stamp)++(x.tasks.map (·.stamp)++((allT x.st).take i).map (·.stamp)))).length=(eO x).length+(x.cache.length+(x.tasks.length+(((allT x.st).take i).map (·.stamp)).length)):=by simp
 refine br (fun hlt=>?_) (fun hge=>?_)
 ·obtain⟨t,ht,-,htk⟩:=aP (show i < (allT x.st).length by omega)
  refine vs ?_
  refine bV rL ht rfl ?_
  rintro b o _ Fi a ⟨va,rfl,ra⟩ _
  (repeat' first|refine vs ?_|refine gS ?_|fail)
  refine iJ (n:=h.n+1) (xs:=(eO x).map (·.id)++(x.cache.map (·.stamp)++(x.tasks.map (·.stamp)++((allT x.st).take i).map (·.stamp)))) (a:=t.stamp) (G:=[]) ah ⟨rfl,rfl⟩ (by rw[List.append_nil];exact bA) aO rfl (by omega) (by omega) ?_
  intro v' h8 F' ek kp r' o' hF
  have e8:=ek _ (aD:Ext (h.push ⟨(x.cs v0 v1 v2 v3 v4 v5 v6 v7 v8 v9 v10),0,0⟩) _) (by simp)
  have n8:=kp.1
  simp only[aH] at n8
  have bt:Bk h8 h9.n [.int .i64 t.id,.int .i64 t.stamp,.int .i64 t.first,va] 0:=bF kp aV (yP ru (Nat.le_refl _))
  have w8:au h8 w (eO x++judges x.tasks) T:=aL kp ah fun c hc hg=>hGT c hg hc
  have L8:au h8 vL (allT x.st) FL:=aL kp ah fun c hc hg=>hGL c hg hc
  have hdT:∀ c∈F',c ∉ T:=fun c hc hT=>by
   rcases hF c hc with h1|h1|h1
   ·exact hGT c h1 hT
   ·cases h1
   ·have:=rw'.lt c hT
    simp only[aH] at h1;omega
  have hdL:∀ c∈F',c ∉ FL:=fun c hc hT=>by
   rcases hF c hc with h1|h1|h1
   ·exact hGL c h1 hT
   ·cases h1
   ·have:=rL.lt c hT
    simp only[aH] at h1;omega
  rw[List.append_assoc,List.append_assoc,List.append_assoc,←Il (fun t:Trail=>t.stamp) htk] at r'
  clear ek kp hF ru ou rw' rL hGT hGL
  (repeat' first|refine vs ?_|((with_reducible refine aA CP ?_);(refine aS (ZE ah (ahW (t:=t) (v:=va) (pI bt))) ?_ ?_<;>intro hn))|fail)
  all_goals first
   |exact pf fun k=>absurd (VN.2 (k.1 t (List.mem_of_getElem? ht))) (by assumption)
   |exact⟨by omega,v',F',rfl,by omega,aD,r',o',w8,L8,hdT,hdL,upS hu ht (VN.1 (by assumption))⟩
 have ei:i=(allT x.st).length:=by omega
 subst ei
 rw[List.take_length] at ru
 have hu:=fV hu
 change au h9 u (Gw x) G at ru
 have bw:Bk h9 h.n (x.cs v0 v1 v2 v3 v4 v5 v6 v7 v8 v9 v10) 0:=aV
 (repeat' first|refine vs ?_|((with_reducible refine aA CU ?_);(refine aS (ZP ru (fun n=>ahV (x:=x) (n:=n) (pI bw))) ?_ ?_<;>intro hn))|fail)
 ·refine pf fun k=>?_
  rename_i hn
  obtain⟨n,hn,hp⟩:=hn
  simp only[decide_eq_true_eq] at hp
  have:=k.2 n hn
  omega
 ·refine pt ⟨hu,fun n hn2=>?_⟩
  rename_i hn
  by_cases hlt:n < x.next
  ·exact hlt
  ·exact absurd ⟨n,hn2,by simp only[decide_eq_true_eq];omega⟩ hn
end Go.Proofs.YtkdjapahgmflbaaGreat
end
