import Derived.Test.YtekfdoknfcedpaaGreatDKW1
import Derived.Test.YtekfdoknfcedpaaGreatDW16
import Derived.Test.YtekfdoknfcedpaaGreatDKW2
import Derived.Test.YtekfdoknfcedpaaGreatDW9
section
set_option linter.unusedSimpArgs false
set_option linter.unusedVariables false
set_option maxHeartbeats 8000000
namespace Go.Proofs.YtekfdoknfcedpaaGreat
open Go Go.Ab
section
def Mr (x0 x1:AV):Prog:=.op (.box x0) fun a=>Lg 29 a fun b=>Ix 12 b x1 fun b=>Ld 12 b fun b=>.op (.alloc gu) fun c=>.op (.st 12 c b) fun _=>Lg 11 c fun b=>Lg 30 a fun d=>Ln 0 d fun d=>Bn .geq b d fun b=>.ite b (.fin [.val (.bool false)]) (Lg 30 a fun a=>Lg 11 c fun b=>Ix 20 a b fun a=>Ld 20 a fun a=>.op (.alloc j4) fun b=>.op (.st 20 b a) fun _=>Lg 0 b fun a=>Bn .eql a (.int .i64 1) fun a=>.gop a true (.fad 2 b) fun d=>.gop a true (.ldn 6 d) fun d=>.gop a true (.fad 2 c) fun e=>.gop a true (.ldn 6 e) fun e=>.gop a true (.call lM [d,e]) fun d=>Pk a d (.bool false) fun a=>Lg 0 c fun d=>Bn .eql d (.int .i64 2) fun d=>.scope (.ite d (Lg 0 b fun a=>Bn .eql a (.int .i64 2) fun a=>Gf a true 8 b fun d=>Gf a true 8 c fun e=>.gop a true (.bin 0 .eql d e) fun d=>Pk a d (.bool false) fun a=>Gf a true 9 b fun b=>Gf a true 9 c fun c=>.gop a true (.bin 0 .eql b c) fun b=>Pk a b (.bool false) fun a=>.leaf 0 [a]) (.leaf 0 [a])) (fun a=>.gop (g a 0) true (.fad 1 b) fun d=>.gop (g a 0) true (.ld1 d) fun d=>.gop (g a 0) true (.mv x1) fun e=>.gop (g a 0) true (.bin 0 .eql d e) fun d=>Pk (g a 0) d (.bool false) fun a=>Gf a true 19 b fun d=>.gop a true (.bin 0 .eql d (.int .i64 (-1))) fun d=>Pk a d (.bool false) fun a=>Gf a true 18 b fun b=>.gop a true (.bin 0 .neq b (.int .i64 (-1))) fun b=>Gf a true 0 c fun d=>.gop a true (.bin 0 .eql d (.int .i64 2)) fun d=>.gop a true (.mv d) fun d=>Gf d true 1 c fun c=>.gop d true (.bin 0 .eql c (.int .i64 3)) fun c=>.gop a true (.pick d c (.bool false)) fun c=>.gop a true (.bin 2 .eql b c) fun b=>Pk a b (.bool false) fun a=>.fin [.val a]) fun a b=>aA a 1 (.leaf 1 b) .bad)
theorem aa3 (x0 x1:AV):CC Tryz.prog zO [x0,x1] (Mr x0 x1):=cc Tryz.func205 [1,5,6,7] (fun _=>[])
def OG (x0 x1:AV):Prog:=.op (.box x0) fun a=>Lg 29 a fun b=>Ix 12 b x1 fun b=>Ld 12 b fun b=>.op (.alloc gu) fun c=>.op (.st 12 c b) fun _=>Lg 0 c fun b=>Bn .eql b (.int .i64 0) fun b=>.ite b (.fin [.val (.bool true)]) (Lg 11 c fun b=>Lg 30 a fun d=>Ln 0 d fun d=>Bn .geq b d fun b=>.ite b (.fin [.val (.bool false)]) (Lg 30 a fun a=>Lg 11 c fun b=>Ix 20 a b fun a=>Ld 20 a fun a=>.op (.alloc j4) fun b=>.op (.st 20 b a) fun _=>Lg 1 b fun a=>Bn .neq a x1 fun a=>Gf a false 19 b fun d=>.gop a false (.bin 0 .neq d (.int .i64 (-1))) fun d=>Pk a (.bool true) d fun a=>Gf a false 18 b fun d=>.gop a false (.bin 0 .neq d (.int .i64 (-1))) fun d=>Gf a false 0 c fun e=>.gop a false (.bin 0 .eql e (.int .i64 2)) fun e=>.gop a false (.mv e) fun e=>Gf e true 1 c fun f=>.gop e true (.bin 0 .eql f (.int .i64 3)) fun f=>.gop a false (.pick e f (.bool false)) fun e=>.gop a false (.bin 2 .neq d e) fun d=>Pk a (.bool true) d fun a=>.ite a (.fin [.val (.bool false)]) (Lg 0 c fun a=>Bn .eql a (.int .i64 1) fun a=>.ite a (Lg 0 b fun a=>Bn .eql a (.int .i64 1) fun a=>.gop a true (.fad 2 b) fun b=>.gop a true (.ldn 6 b) fun b=>.gop a true (.fad 2 c) fun c=>.gop a true (.ldn 6 c) fun c=>.gop a true (.call tH [b,c]) fun b=>Pk a b (.bool false) fun a=>.fin [.val a]) (Lg 0 b fun a=>Bn .eql a (.int .i64 2) fun a=>Gf a true 8 b fun d=>Gf a true 8 c fun e=>.gop a true (.bin 0 .eql d e) fun d=>Pk a d (.bool false) fun a=>Gf a true 9 b fun b=>Gf a true 9 c fun c=>.gop a true (.bin 0 .eql b c) fun b=>Pk a b (.bool false) fun a=>.fin [.val a]))))
theorem aft (x0 x1:AV):CC Tryz.prog Bc [x0,x1] (OG x0 x1):=cc Tryz.func181
end
def yw (k:Nat) (t:Task) (d:bN):Prop:=d.task=k∧d.res= -1∧(d.lin≠-1↔(t.op=2∧t.pc=3))∧((t.op=1∧d.op=1∧d.s=t.s)∨(t.op=2∧d.op=2∧d.trace=t.trace∧d.stamp=t.stamp))
def pV (x:Wld) (k:Nat) (t:Task):Prop:=match x.aH[t.h.toNat]? with
 |none=>False
 |some d=>yw k t d
theorem Eo {x:Wld} {k:Nat} {t:Task} {d:bN} (h:x.aH[t.h.toNat]? =some d):pV x k t↔yw k t d:=by unfold pV;rw[h]
theorem UU {x:Wld} {k:Nat} {t:Task} (h:x.aH.length≤t.h.toNat): ¬ pV x k t:=by unfold pV;rw[List.getElem?_eq_none h];exact id
theorem aaB {h:AH} {x:Wld} {cs:List AV} {F:List Nat} {k:Nat} {t:Task} (ht:x.tasks[k]? =some t) (h0:0≤t.h) (ho:t.op=1∨t.op=2) (r:Cel.rep h x cs F):
  aN Tryz.prog zO [.agg cs,.int .i64 (k:Int)] h (.bool (bp (pV x k t))):=by
 obtain⟨v0,v1,v2,v3,v4,v5,v6,v7,v8,v9,v10,F0,F1,F2,F3,F4,F5,F6,F7,F8,F9,F10,rfl,rfl,r0,r1,r2,r3,r4,r5,r6,r7,r8,r9,r10⟩:=r
 have hl9:=r9.small
 have Lp:=r10.small
 refine reader (aa3 _ _) (by simp only[old]) ?_
 unfold Mr
 by_cases hlt:t.h.toNat < x.aH.length
 ·obtain⟨d,hd,-,-⟩:=aR hlt
  (repeat' first|refine vs ?_|(refine br ?_ ?_<;>first|exact bx|intro _)|((with_reducible refine aB lM ?_);(refine aX (Ap (a:=d.s) (b:=t.s) ah ah) ?_ ?_<;>intro hn))|((with_reducible refine aC ?_);((first|refine ix ?_|refine ixi ?_);first|rintro _ _ _ _ _ ⟨_,rfl,_⟩ _|rintro _ _ _ _ _ ⟨_,_,_,_,rfl,rfl,_,_⟩ _))|((with_reducible refine aJ ?_);simp only[g0,g1,g2]))
  all_goals first
   |(refine pt ((Eo hd).2 ?_);unfold yw;first|exact⟨by omega,by omega,by omega,.inl ⟨by omega,by omega,by assumption⟩⟩|exact⟨by omega,by omega,by omega,.inr ⟨by omega,by omega,by omega,by omega⟩⟩)
   |(refine pf fun k=>?_;obtain⟨a1,a2,a3,⟨b1,b2,b3⟩|⟨b1,b2,b3,b4⟩⟩:=(Eo hd).1 k<;>first|contradiction|omega)
 ·(repeat' first|refine vs ?_|(refine br ?_ ?_<;>first|exact bo|intro _)|((with_reducible refine aC ?_);((refine ix ?_);rintro _ _ _ _ _ ⟨_,_,_,_,rfl,rfl,_,_⟩ _))|fail)
  exact pf (UU (by omega))
theorem aen {h:AH} {x:Wld} {cs:List AV} {F:List Nat} {k:Nat} {t:Task} (ht:x.tasks[k]? =some t) (h0:0≤t.h) (ho:t.op=0∨t.op=1∨t.op=2) (r:Cel.rep h x cs F):
  aN Tryz.prog Bc [.agg cs,.int .i64 (k:Int)] h (.bool (bp (t.op≠0→pV x k t))):=by
 obtain⟨v0,v1,v2,v3,v4,v5,v6,v7,v8,v9,v10,F0,F1,F2,F3,F4,F5,F6,F7,F8,F9,F10,rfl,rfl,r0,r1,r2,r3,r4,r5,r6,r7,r8,r9,r10⟩:=r
 have hl9:=r9.small
 have Lp:=r10.small
 refine reader (aft _ _) (by simp only[old]) ?_
 unfold OG
 by_cases hlt:t.h.toNat < x.aH.length
 ·obtain⟨d,hd,-,-⟩:=aR hlt
  (repeat' first|refine vs ?_|(refine br ?_ ?_<;>first|exact bx|intro _)|((with_reducible refine aB tH ?_);(refine aX (Nq (a:=d.s) (b:=t.s) ah ah) ?_ ?_<;>intro hn))|((with_reducible refine aC ?_);((first|refine ix ?_|refine ixi ?_);first|rintro _ _ _ _ _ ⟨_,rfl,_⟩ _|rintro _ _ _ _ _ ⟨_,_,_,_,rfl,rfl,_,_⟩ _))|fail)
  all_goals first
   |exact pt fun hh=>absurd (by assumption) hh
   |(refine pt fun _=>(Eo hd).2 ?_;unfold yw;first|exact⟨by omega,by omega,by omega,.inl ⟨by omega,by omega,by assumption⟩⟩|exact⟨by omega,by omega,by omega,.inr ⟨by omega,by omega,by omega,by omega⟩⟩)
   |(refine pf fun k=>?_;obtain⟨a1,a2,a3,⟨b1,b2,b3⟩|⟨b1,b2,b3,b4⟩⟩:=(Eo hd).1 (k (by omega))<;>first|contradiction|omega)
 ·(repeat' first|refine vs ?_|(refine br ?_ ?_<;>first|exact bo|intro _)|((with_reducible refine aC ?_);((refine ix ?_);rintro _ _ _ _ _ ⟨_,_,_,_,rfl,rfl,_,_⟩ _))|fail)
  all_goals first
   |exact pt fun hh=>absurd (by assumption) hh
   |exact pf fun k=>UU (by omega) (k (by omega))
end Go.Proofs.YtekfdoknfcedpaaGreat
end
section
set_option linter.unusedSimpArgs false
set_option linter.unusedVariables false
set_option maxHeartbeats 8000000
namespace Go.Proofs.YtekfdoknfcedpaaGreat
open Go Go.Ab
section
def Pt (x0:AV):Prog:=.op (.box x0) fun a=>Lg 29 a fun b=>Ln 0 b fun b=>Bn .neq b (.int .i64 5) fun b=>.ite b (.fin [.val (.bool false)]) (Lg 14 a fun b=>Ln 0 b fun b=>.op (.eX 1 8 [.int .i64 0] b b) fun b=>Ln 0 b fun c=>.loop [.int .i64 0] (fun a=>Bn .lss (g a 0) c fun c=>.ite c (Ix 1 b (g a 0) fun b=>.op (.st 1 b (.int .i64 (-1))) fun _=>Bn .add (g a 0) (.int .i64 1) fun a=>.leaf 0 [a]) (.leaf 2 [g a 0])) fun c d=>aA c 1 (.leaf 1 d) (aA c 2 (Lg 29 a fun c=>Ln 0 c fun d=>.loop [.int .i64 (-1),.tup [],.tup [],.int .i64 0] (fun e=>Bn .lss (g e 3) d fun d=>.ite d (Ix 12 c (g e 3) fun c=>Ld 12 c fun c=>.op (.alloc gu) fun d=>.op (.st 12 d c) fun _=>Ld 12 d fun c=>Cl Cx [c,g e 3] fun c=>.op (.una .not c) fun c=>Gf c false 0 d fun f=>.gop c false (.bin 0 .neq f (.int .i64 0)) fun f=>.gop c false (.mv f) fun f=>.gop f true (.ldn 32 a) fun i=>.gop f true (.mv (g e 3)) fun j=>.gop f true (.call zO [i,j]) fun i=>.gop f true (.una .not i) fun i=>.gop c false (.pick f i (.bool false)) fun f=>Pk c (.bool true) f fun c=>.ite c (.fin [.val (.bool false)]) (Ld 12 d fun c=>Lg 14 a fun a=>Ln 0 a fun a=>Cl GY [c,a] fun a=>Bn .geq a (.int .i64 0) fun c=>.scope (.ite c (Ix 1 b a fun c=>.op (.ld1 c) fun c=>.op (.bin 0 .neq c (.int .i64 (-1))) fun c=>.ite c (.fin [.val (.bool false)]) (Ix 1 b a fun a=>.op (.st 1 a (g e 3)) fun _=>.leaf 0 [])) (.leaf 0 [])) (fun _=>Ld 12 d fun a=>Cl wD [a] fun a=>.scope (.ite a (.op (.bin 0 .neq (g e 0) (.int .i64 (-1))) fun a=>.ite a (.fin [.val (.bool false)]) (.leaf 0 [g e 3])) (.leaf 0 [g e 0])) (fun a=>Bn .add (g e 3) (.int .i64 1) fun b=>.leaf 0 [g a 0,g e 3,d,b]) fun a b=>aA a 1 (.leaf 1 b) .bad) fun a b=>aA a 1 (.leaf 1 b) .bad)) (.leaf 4 [g e 0,g e 1,g e 2,g e 3])) fun c d=>aA c 1 (.leaf 1 d) (aA c 4 (Lg 14 a fun c=>Ln 0 c fun e=>.loop [.int .i64 0] (fun a=>Bn .lss (g a 0) e fun d=>.ite d (Ix 2 c (g a 0) fun c=>Ld 2 c fun c=>.op (.alloc [.int .i64 0,.aF]) fun d=>.op (.st 2 d c) fun _=>Lg 0 d fun c=>Ix 1 b (g a 0) fun b=>.op (.ld1 b) fun b=>Bn .neq c b fun b=>.ite b (.fin [.val (.bool false)]) (Bn .add (g a 0) (.int .i64 1) fun a=>.leaf 0 [a])) (.leaf 6 [g a 0])) fun b c=>aA b 1 (.leaf 1 c) (aA b 6 (Lg 15 a fun a=>Bn .eql a (g d 0) fun a=>.fin [.val a]) .bad)) .bad)) .bad))
theorem agh (x0:AV):CC Tryz.prog BQ [x0] (Pt x0):=cc Tryz.func125 [1,3,5,6,7,20,21,29,30,31,74,75,76] (fun r=>if r=28 then[(0,[]),(1,[]),(2,[]),(3,[]),(4,[]),(5,[]),(6,[])] else[])
end
def iV (n:Nat) (hs:List Int) (k:Nat) (t:Task):Option (List Int):=if 0≤dU t n then(if hs[(dU t n).toNat]? =some (-1) then some (hs.set (dU t n).toNat (k:Int)) else none) else some hs
def iW (r:Int) (k:Nat) (t:Task):Option Int:=if t.op=2∧t.pc=2 then(if r= -1 then some (k:Int) else none) else some r
def uR (n:Nat) (s:List Int × Int) (k:Nat) (t:Task):Option (List Int × Int):=match iV n s.1 k t,iW s.2 k t with
 |some a,some b=>some (a,b)
 |_,_=>none
def dS (n:Nat) (l:List Task):Nat→Option (List Int × Int)
 |0=>some (List.replicate n (-1),-1)
 |k+1=>match dS n l k,l[k]? with
  |some s,some t=>uR n s k t
  |_,_=>none
theorem ni {n k:Nat} {l:List Task} {hs hs':List Int} {r r':Int} {t:Task} (h:dS n l k=some (hs,r)) (ht:l[k]? =some t) (a:iV n hs k t=some hs') (b:iW r k t=some r'):dS n l (k+1)=some (hs',r'):=by
 simp[dS,h,ht,uR,a,b]
theorem TL {n k:Nat} {l:List Task} {hs:List Int} {r:Int} {t:Task} (h:dS n l k=some (hs,r)) (ht:l[k]? =some t) (a:iV n hs k t=none):dS n l (k+1)=none:=by
 simp[dS,h,ht,uR,a]
theorem DT {n k:Nat} {l:List Task} {hs:List Int} {r:Int} {t:Task} (h:dS n l k=some (hs,r)) (ht:l[k]? =some t) (b:iW r k t=none):dS n l (k+1)=none:=by
 simp only[dS,h,ht,uR,b]
 cases iV n hs k t<;>rfl
theorem oI {n k:Nat} {l:List Task} (h:dS n l k=none):∀ {m:Nat},k≤m→dS n l m=none
 |0,hm=>by have:k=0:=(by omega);subst this;exact h
 |m+1,hm=>by
  by_cases e:k=m+1
  ·subst e;exact h
  ·have:=oI h (m:=m) (by omega)
   simp[dS,this]
theorem Ka {n k:Nat} {hs:List Int} {t:Task} (h: ¬ dU t n ≥ 0):iV n hs k t=some hs:=by unfold iV;rw[if_neg (by omega)]
theorem J9 {n k:Nat} {hs:List Int} {t:Task} {y:Int} (h:dU t n ≥ 0) (hy:hs[(dU t n).toNat]? =some y) (e:y= -1):iV n hs k t=some (hs.set (dU t n).toNat (k:Int)):=by
 subst e;unfold iV;rw[if_pos (by omega),if_pos hy]
theorem Uc {n k:Nat} {hs:List Int} {t:Task} {y:Int} (h:dU t n ≥ 0) (hy:hs[(dU t n).toNat]? =some y) (e: ¬ y= -1):iV n hs k t=none:=by
 unfold iV;rw[if_pos (by omega),if_neg (by rw[hy];simpa using e)]
theorem xZ {r:Int} {k:Nat} {t:Task} (h: ¬ (t.op=2∧t.pc=2)):iW r k t=some r:=by unfold iW;rw[if_neg h]
theorem xY {r:Int} {k:Nat} {t:Task} (h:t.op=2∧t.pc=2) (e:r= -1):iW r k t=some (k:Int):=by unfold iW;rw[if_pos h,if_pos e]
theorem Ea {r:Int} {k:Nat} {t:Task} (h:t.op=2∧t.pc=2) (e: ¬ r= -1):iW r k t=none:=by unfold iW;rw[if_pos h,if_neg e]
theorem Kh (t:Task) (n:Nat): -1≤dU t n∧(0≤dU t n→dU t n < n):=by
 unfold dU
 by_cases hn:(n:Int) < 1
 ·rw[if_pos hn];omega
 ·rw[if_neg hn]
  have h1:=kL (t:=t.s.trace) (n:=n) (by omega)
  have h2:=kL (t:=t.trace) (n:=n) (by omega)
  split
  ·omega
  ·split<;>omega
def rE (x:Wld) (k:Nat) (t:Task):Prop:=vv t k∧(t.op≠0→pV x k t)
def Ei (x:Wld):Prop:=∃ hs r,dS x.st.length x.tasks x.tasks.length=some (hs,r)∧(∀ (i:Nat) (s:aU),x.st[i]? =some s→hs[i]? =some s.held)∧x.bH=r
def Vk (x:Wld):Prop:=(x.tasks.length:Int)=5∧(∀ (k:Nat) (t:Task),x.tasks[k]? =some t→rE x k t)∧Ei x
def Vj (x:Wld):Prop:=(∀ (k:Nat) (t:Task),x.tasks[k]? =some t→rE x k t∧t.stamp < x.next)∧Ei x
theorem Tp {t:Task} {k:Int} (h:vv t k):0≤t.h:=h.1
theorem SL {t:Task} {k:Int} (h:vv t k) (h0: ¬ t.op=0):t.op=1∨t.op=2:=by
 obtain⟨-,-,-,h|h|h⟩:=h
 ·exact absurd (by rw[h];rfl) h0
 ·exact .inl h.1
 ·exact .inr h.1
theorem ai4 {t:Task} {k:Int} (h:vv t k):t.op=0∨t.op=1∨t.op=2:=by
 by_cases h0:t.op=0
 ·exact .inl h0
 ·exact .inr (SL h h0)
section
variable{P:Program} {h:AH} {Q:Nat→List AV→AH→Prop} {k:AV→Prog}
theorem U5 {z y:Int} {v:AV} {xs:List Int} {F:List Nat} (r:au h v xs F) (hz:0≤z) (hy:xs[z.toNat]? =some y) (hk:(k (.int .i64 y)).awp P h Q):(Prog.op (.idx 1 v (.int .i64 z)) fun a=>.op (.ld1 a) k).awp P h Q:=by
 have e1:z=((z.toNat:Nat):Int):=by omega
 rw[e1]
 refine bS r hy rfl ?_
 rintro b o _ Fi a ⟨rfl,rfl⟩ _
 exact qM a (Ext.refl _) hk
theorem TA {h:AH} {y:Int}:∀ n,bO h (List.replicate n y) (List.replicate n ([.int .i64 y]:List AV)).flatten []
 |0=>⟨rfl,rfl⟩
 |n+1=>⟨[.int .i64 y],_,[],[],by simp[List.replicate_succ],rfl,⟨rfl,rfl⟩,TA n⟩
end
theorem aeY {h:AH} {x:Wld} {cs:List AV} {F:List Nat} (ok:Cel.ok x) (hs:Sz.sz x≤67108864) (r:Cel.rep h x cs F):
  aN Tryz.prog BQ [.agg cs] h (.bool (bp (Vk x))):=by
 obtain⟨v0,v1,v2,v3,v4,v5,v6,v7,v8,v9,v10,F0,F1,F2,F3,F4,F5,F6,F7,F8,F9,F10,rfl,rfl,r0,r1,r2,r3,r4,r5,r6,r7,r8,r9,r10⟩:=r
 obtain⟨rY,yh,rF,wY,yX,uP,yg,yV,yD,oO,qY,qP,xP,qR⟩:=ok
 have hs:Sz.sz x.c+(x.st.length+szs x.st)+(x.cache.length+szs x.cache)+Sz.sz x.w+(x.due.length+szs x.due)+(x.queue.length+szs x.queue)+(x.out.length+szs x.out)+(x.tasks.length+szs x.tasks)+(x.aH.length+szs x.aH)≤67108864:=hs
 have hl1:=r1.small
 have hl9:=r9.small
 refine reader (agh _) (by simp only[old]) ?_
 unfold Pt
 (repeat' first|refine vs ?_|(refine br ?_ ?_<;>first|exact bx|intro _)|fail)
 ·exact pf fun k=>by have:=k.1;omega
 refine Ku (by omega) ?_
 have hlr:(List.replicate x.st.length (0:Int)).length=x.st.length:=by simp
 have rN:au ((h.push ⟨(x.cs v0 v1 v2 v3 v4 v5 v6 v7 v8 v9 v10),0,0⟩).push ⟨(List.replicate x.st.length ([.int .i64 0]:List AV)).flatten,1,0⟩) (.sl (h.n+1) 0 x.st.length) (List.replicate x.st.length (0:Int)) [h.n+1]:=mV (h:=h.push ⟨(x.cs v0 v1 v2 v3 v4 v5 v6 v7 v8 v9 v10),0,0⟩) (n:=x.st.length) (xs:=List.replicate x.st.length (0:Int)) (by simp) (by omega) (TA _)
 have oN:Own (h.n+1) ((h.push ⟨(x.cs v0 v1 v2 v3 v4 v5 v6 v7 v8 v9 v10),0,0⟩).push ⟨(List.replicate x.st.length ([.int .i64 0]:List AV)).flatten,1,0⟩) [h.n+1]:=uN (by simp) rfl (by simp) Own.nil
 (repeat' first|refine vs ?_|fail)
 refine aY x.st.length (fun i vs h1=>∃ G,vs=[.int .i64 (i:Int)]∧i≤x.st.length∧Ext (h.push ⟨(x.cs v0 v1 v2 v3 v4 v5 v6 v7 v8 v9 v10),0,0⟩) h1∧h.n+2≤h1.n∧au h1 (.sl (h.n+1) 0 x.st.length) (List.replicate i (-1:Int)++List.replicate (x.st.length - i) 0) G∧Own (h.n+1) h1 G) ⟨_,rfl,Nat.zero_le _,aG,by simp,by simpa using rN,oN⟩ ?_
 rintro i vs h1 _ ⟨G,rfl,hi,e1,hn1,rG,oG⟩
 simp only[g0]
 refine br (fun hlt=>?_) (fun hge=>?_)
 ·refine dH (Kr rG oG (by omega) (by simp;omega) ?_)
  intro h2 ek2 kp2 hn2 rG2 oG2
  (repeat' first|refine vs ?_|fail)
  refine⟨by omega,G,rfl,by omega,ek2 _ e1 (by simp),by omega,?_,oG2⟩
  have:(List.replicate i (-1:Int)++List.replicate (x.st.length - i) 0).set ((i:Int)).toNat (-1)=List.replicate (i+1) (-1:Int)++List.replicate (x.st.length - (i+1)) 0:=by
   have e:x.st.length - i=(x.st.length - (i+1))+1:=by omega
   rw[e,List.replicate_succ,List.set_append_right _ _ (by simp),List.replicate_succ' (n:=i)]
   simp
  rw[←this];exact rG2
 have ei:i=x.st.length:=by omega
 subst ei
 rw[show List.replicate x.st.length (-1:Int)++List.replicate (x.st.length - x.st.length) 0=List.replicate x.st.length (-1:Int) by simp] at rG
 (repeat' first|refine vs ?_|fail)
 have b1:Bk h1 h.n (x.cs v0 v1 v2 v3 v4 v5 v6 v7 v8 v9 v10) 0:=fK e1 iE
 refine aY x.tasks.length (fun i vs h2=>∃ y1 y2 hs r G,vs=[.int .i64 r,y1,y2,.int .i64 (i:Int)]∧i≤x.tasks.length∧Ext (h.push ⟨(x.cs v0 v1 v2 v3 v4 v5 v6 v7 v8 v9 v10),0,0⟩) h2∧h.n+2≤h2.n∧hs.length=x.st.length∧dS x.st.length x.tasks i=some (hs,r)∧au h2 (.sl (h.n+1) 0 x.st.length) hs G∧Own (h.n+1) h2 G∧bW x.tasks (rE x) i) ⟨_,_,_,_,G,rfl,Nat.zero_le _,aG,hn1,by simp,rfl,rG,oG,up0⟩ ?_
 clear hi hge e1 hn1 rG oG b1 rN oN
 rintro i vs h2 _ ⟨y1,y2,hs',r',G',rfl,hi,e2,hn2,hlen,hlk,rG',oG',hu⟩
 simp only[g0,g1,g2,g3]
 refine br (fun hlt=>?_) (fun hge=>?_)
 ·obtain⟨t,ht,-,-⟩:=aR (show i < x.tasks.length by omega)
  have hm:=List.mem_of_getElem? ht
  have hsz:=bI hm
  have okt:=qP t hm
  have hbz:=Kh t x.st.length
  refine vs ?_
  refine bS r9 ht rfl ?_
  rintro b o _ Fi a ⟨va,vb,Fa,Fb,rfl,rfl,ra,rb⟩ _
  (repeat' first|refine vs ?_|(refine br ?_ ?_<;>first|exact bx|intro _)|((with_reducible refine aB Cx ?_);(refine aX (ag8 (t:=t) okt (by omega) ah ah) ?_ ?_<;>intro hn))|((with_reducible refine aB zO ?_);(refine aX (aaB ht (Tp (by assumption)) (SL (by assumption) (by assumption)) ⟨_,_,_,_,_,_,_,_,_,_,_,_,_,_,_,_,_,_,_,_,_,_,rfl,rfl,ah,ah,ah,ah,ah,ah,ah,ah,ah,ah,ah⟩) ?_ ?_<;>intro hn))|fail)
  all_goals first
   |(refine pf fun k=>?_;have k:=k.2.1 i t ht;first|exact absurd k.1 (by assumption)|exact absurd (k.2 (by assumption)) (by assumption))
   |skip
  all_goals
   have hD:rE x i t:=⟨by assumption,by intro hh;first|assumption|exact absurd (by assumption) hh⟩
   refine aQ (aae (t:=t)) ?_
   refine br (fun lF=>?_) (fun hlt2=>?_)
   ·have hzl:=hbz.2 lF
    obtain⟨y,hy,-,-⟩:=aR (show(dU t x.st.length).toNat < hs'.length by omega)
    refine vs ?_
    refine U5 ah (by omega) hy ?_
    refine br (fun hne=>?_) (fun heq=>?_)
    ·(repeat' first|refine vs ?_|fail)
     exact pf fun k=>by
      obtain⟨-,-,h5,r5,hl5,-⟩:=k
      rw[oI (TL hlk ht (Uc lF hy hne)) (by omega)] at hl5;cases hl5
    ·refine dw (Kr (n:=h.n+1) (y:=i) ah bJ (by omega) (by omega) ?_)
     intro h3 ek3 kp3 hn3 rG3 oG3
     have e3:=ek3 _ (aG:Ext (h.push ⟨(x.cs v0 v1 v2 v3 v4 v5 v6 v7 v8 v9 v10),0,0⟩) _) (by simp)
     have hsS:=J9 (k:=i) lF hy heq
     have bt:Bk h3 h2.n [.int .i64 t.op,.int .i64 t.pc,.int .i64 t.s.trace,.int .i64 t.s.id,.int .i64 t.s.start,.int .i64 t.s.fin,.bool t.s.err,va,.int .i64 t.trace,.int .i64 t.stamp,vb,.int .i64 t.h] 0:=bR kp3 bA (vB rG' (Nat.le_refl _))
     (repeat' first|refine vs ?_|(refine br ?_ ?_<;>first|exact bo|intro _)|((with_reducible refine aB wD ?_);(refine aX (MH (t:=t)) ?_ ?_<;>intro hn))|fail)
     all_goals first
      |(refine pf fun k=>?_;obtain⟨-,-,h5,r5,hl5,-⟩:=k;rw[oI (DT hlk ht (Ea (by assumption) (by assumption))) (by omega)] at hl5;cases hl5)
      |exact⟨by omega,_,_,_,_,_,rfl,by omega,aG,aP,by simpa using hlen,ni hlk ht hsS (xY (by assumption) (by assumption)),ah,bJ,upS hu ht hD⟩
      |exact⟨by omega,_,_,_,_,_,rfl,by omega,aG,aP,by simpa using hlen,ni hlk ht hsS (xZ (by assumption)),ah,bJ,upS hu ht hD⟩
   ·have hsS:=Ka (k:=i) (hs:=hs') hlt2
    (repeat' first|refine vs ?_|(refine br ?_ ?_<;>first|exact bo|intro _)|((with_reducible refine aB wD ?_);(refine aX (MH (t:=t)) ?_ ?_<;>intro hn))|fail)
    all_goals first
     |(refine pf fun k=>?_;obtain⟨-,-,h5,r5,hl5,-⟩:=k;rw[oI (DT hlk ht (Ea (by assumption) (by assumption))) (by omega)] at hl5;cases hl5)
     |exact⟨by omega,_,_,_,_,_,rfl,by omega,aG,aP,hlen,ni hlk ht hsS (xY (by assumption) (by assumption)),ah,bJ,upS hu ht hD⟩
     |exact⟨by omega,_,_,_,_,_,rfl,by omega,aG,aP,hlen,ni hlk ht hsS (xZ (by assumption)),ah,bJ,upS hu ht hD⟩
 ·have ei:i=x.tasks.length:=by omega
  subst ei
  have hu:=iU hu
  (repeat' first|refine vs ?_|((with_reducible refine aJ ?_);simp only[g0,g1,g2]))
  refine aY x.st.length (fun i vs h3=>vs=[.int .i64 (i:Int)]∧i≤x.st.length∧Ext h2 h3∧bW x.st (fun i s=>hs'[i]? =some s.held) i) ⟨rfl,Nat.zero_le _,Ext.refl _,up0⟩ ?_
  rintro i vs h3 _ ⟨rfl,hi3,e3,hu3⟩
  simp only[g0]
  refine br (fun hlt=>?_) (fun Lr=>?_)
  ·obtain⟨s,hx,-,-⟩:=aR (show i < x.st.length by omega)
   obtain⟨y,hy,-,-⟩:=aR (show i < hs'.length by omega)
   (repeat' first|refine vs ?_|(refine br ?_ ?_<;>first|exact bx|intro _)|((with_reducible refine aC ?_);((refine ix ?_);first|rintro _ _ _ _ _ ⟨rfl,rfl⟩ _|rintro _ _ _ _ _ ⟨_,rfl,_⟩ _))|fail)
   ·exact pf fun k=>by
     obtain⟨-,-,h5,r5,hl5,hh,-⟩:=k
     rw[hlk] at hl5;cases hl5
     have:=hh i s hx
     rw[hy] at this;cases this
     contradiction
   ·exact⟨by omega,rfl,by omega,aG,upS hu3 hx (by rw[hy];congr 1;omega)⟩
  ·rw[show i=x.st.length by omega] at hu3
   have hu3:=iU hu3
   (repeat' first|refine vs ?_|(refine br ?_ ?_<;>first|exact bx|intro _)|fail)
   ·exact pt ⟨by omega,hu,_,_,hlk,hu3,by assumption⟩
   ·exact pf fun k=>by
     obtain⟨-,-,h5,r5,hl5,hh,hr⟩:=k
     rw[hlk] at hl5;cases hl5
     contradiction
end Go.Proofs.YtekfdoknfcedpaaGreat
end
section
set_option linter.unusedSimpArgs false
set_option linter.unusedVariables false
set_option maxHeartbeats 8000000
namespace Go.Proofs.YtekfdoknfcedpaaGreat
open Go Go.Ab
section
abbrev aaI (WY:AV) (v1:AV):Prog:=Ln 0 WY fun a=>.loop [.int .i64 0] (fun b=>Bn .lss (g b 0) a fun a=>.ite a (Ix 3 WY (g b 0) fun a=>Ld 3 a fun a=>.op (.alloc [.int .i64 0,.int .i64 0,.int .i64 0]) fun c=>.op (.st 3 c a) fun _=>Lg 0 c fun a=>Bn .lss a (.int .i64 1) fun a=>Gf a false 1 c fun c=>.gop a false (.call bK [c,.int .i64 1,.int .i64 999]) fun c=>.gop a false (.una .not c) fun c=>Pk a (.bool true) c fun a=>.ite a (.fin [.val (.bool false)]) (Bn .add (g b 0) (.int .i64 1) fun a=>.leaf 0 [a])) (.leaf 2 [g b 0])) fun a b=>aA a 1 (.leaf 1 b) (aA a 2 (Lg 30 v1 fun a=>Ln 0 a fun b=>.loop [.int .i64 0] (fun c=>Bn .lss (g c 0) b fun b=>.ite b (Ix 20 a (g c 0) fun a=>Ld 20 a fun a=>.op (.alloc j4) fun b=>.op (.st 20 b a) fun _=>Ld 20 b fun a=>Cl Cz [a] fun a=>.op (.una .not a) fun a=>Gf a false 17 b fun d=>Gf a false 18 b fun e=>Gf a false 19 b fun b=>.gop a false (.mnx false [d,e,b]) fun b=>Gf a false 12 v1 fun d=>.gop a false (.bin 0 .geq b d) fun b=>Pk a (.bool true) b fun a=>.ite a (.fin [.val (.bool false)]) (Bn .add (g c 0) (.int .i64 1) fun a=>.leaf 0 [a])) (.leaf 4 [g c 0])) fun a b=>aA a 1 (.leaf 1 b) (aA a 4 (.fin [.val (.bool true)]) .bad)) .bad)
abbrev aaH (pX:AV) (v1:AV):Prog:=Gf pX false 27 v1 fun a=>.gop pX false (.len 0 a) fun a=>.gop pX false (.fad 0 v1) fun b=>Gf pX false 4 b fun b=>.gop pX false (.bin 0 .gtr a b) fun a=>Pk pX (.bool true) a fun a=>Gf a false 27 v1 fun b=>.gop a false (.call wJ [b]) fun b=>.gop a false (.una .not b) fun b=>Pk a (.bool true) b fun a=>Gf a false 28 v1 fun b=>.gop a false (.call wJ [b]) fun b=>.gop a false (.una .not b) fun b=>Pk a (.bool true) b fun a=>.ite a (.fin [.val (.bool false)]) (Lg 26 v1 fun a=>aaI a v1)
abbrev aaG (v80:AV) (v1:AV):Prog:=.op (.ld1 v80) fun a=>.op (.fad 0 v1) fun b=>Lg 3 b fun b=>Cl BX [a,b] fun a=>.op (.una .not a) fun a=>.gop a false (.fad 21 v1) fun b=>.gop a false (.ld1 b) fun c=>Gf a false 14 v1 fun d=>.gop a false (.call Al [d]) fun d=>.lG a false (.ld1 b) c (.gop a false (.bin 0 .neq c d) fun b=>Pk a (.bool true) b fun a=>Gf a false 21 v1 fun b=>.gop a false (.fad 0 v1) fun c=>Gf a false 2 c fun c=>.gop a false (.bin 0 .gtr b c) fun b=>Pk a (.bool true) b fun a=>aaH a v1)
abbrev aaF (v55:AV) (v60:AV) (v58:AV) (v1:AV):Prog:=.gop v55 false (.ld1 v60) fun a=>.gop v55 false (.bin 0 .neq v58 a) fun a=>Pk v55 (.bool true) a fun a=>.gop a false (.fad 16 v1) fun b=>Gf a false 1 b fun b=>.gop a false (.fad 0 v1) fun c=>Gf a false 6 c fun c=>.gop a false (.bin 0 .neq b c) fun b=>Pk a (.bool true) b fun a=>.gop a false (.fad 16 v1) fun b=>Gf a false 3 b fun b=>.gop a false (.fad 22 v1) fun c=>Gf a false 0 c fun c=>.gop a false (.bin 0 .gtr b c) fun b=>Pk a (.bool true) b fun a=>.ite a (.fin [.val (.bool false)]) (.op (.fad 20 v1) fun a=>aaG a v1)
abbrev aaE (v40:AV) (v1:AV):Prog:=Gf v40 false 13 v1 fun a=>.gop v40 false (.mv a) fun a=>.gop a true (.fad 22 v1) fun b=>.gop a true (.ldn 4 b) fun b=>.gop a true (.call ug [b]) fun b=>.gop a true (.len 0 b) fun b=>.gop a true (.bin 0 .gtr b (.int .i64 0)) fun b=>.gop v40 false (.pick a b (.bool false)) fun a=>Pk v40 (.bool true) a fun a=>.gop a false (.fad 16 v1) fun b=>.gop a false (.ldn 4 b) fun b=>.gop a false (.call mK [b]) fun b=>.gop a false (.una .not b) fun b=>Pk a (.bool true) b fun a=>.gop a false (.fad 16 v1) fun b=>Gf a false 0 b fun b=>.gop a false (.fad 0 v1) fun c=>.gop a false (.fad 5 c) fun c=>aaF a c b v1
abbrev aaD (v18:AV) (v20:AV) (v1:AV):Prog:=.gop v18 false (.call Aj [v20]) fun a=>.gop v18 false (.una .not a) fun a=>Pk v18 (.bool true) a fun a=>Gf a false 14 v1 fun b=>.gop a false (.len 0 b) fun b=>.gop a false (.fad 0 v1) fun c=>Gf a false 0 c fun c=>.gop a false (.bin 0 .neq b c) fun b=>Pk a (.bool true) b fun a=>.ite a (.fin [.val (.bool false)]) (.op (.fad 22 v1) fun a=>Ld 4 a fun a=>Cl BR [a] fun a=>.op (.una .not a) fun a=>.gop a false (.fad 22 v1) fun b=>Gf a false 0 b fun b=>.gop a false (.bin 0 .gtr b (.int .i64 100000)) fun b=>Pk a (.bool true) b fun a=>aaE a v1)
def NS (x0:AV):Prog:=.op (.box x0) fun a=>.op (.fad 0 a) fun b=>Ld 12 b fun b=>Cl CB [b] fun b=>.op (.una .not b) fun b=>Gf b false 12 a fun c=>.gop b false (.bin 0 .lss c (.int .i64 0)) fun c=>Pk b (.bool true) c fun b=>Gf b false 15 a fun c=>.gop b false (.call bK [c,.int .i64 (-1),.int .i64 4]) fun c=>.gop b false (.una .not c) fun c=>Pk b (.bool true) c fun b=>Gf b false 31 a fun c=>.gop b false (.bin 0 .lss c (.int .i64 1)) fun c=>Pk b (.bool true) c fun b=>Gf b false 14 a fun c=>aaD b c a
theorem ad5 (x0:AV):CC Tryz.prog AL [x0] (NS x0):=cc Tryz.func124 [1,141,142,143,158,159,160] (fun r=>if r=5 then[(0,[]),(1,[]),(2,[]),(3,[]),(4,[]),(5,[]),(6,[]),(7,[]),(8,[]),(9,[]),(10,[]),(11,[]),(12,[9]),(13,[]),(14,[]),(15,[]),(16,[]),(17,[]),(18,[]),(19,[]),(20,[]),(21,[]),(22,[]),(23,[]),(24,[]),(25,[]),(26,[]),(27,[]),(28,[]),(29,[]),(30,[]),(31,[]),(32,[]),(33,[]),(34,[]),(35,[]),(36,[]),(37,[]),(38,[]),(39,[]),(40,[]),(41,[]),(42,[]),(43,[])] else[])
end
theorem Vv {P:Program} {h:AH} {Q:Nat→List AV→AH→Prop} {g:Bool} {o:AOp} {k:AV→Prog} (b:Bool) (hk:(Prog.gop (.bool b) g o k).awp P h Q):(Prog.gop (.bool b) g o k).awp P h Q:=hk
theorem alF {P:Program} {h:AH} {Q:Nat→List AV→AH→Prop} {k:AV→Prog} {a b c:Int} (hk:(k (.int .i64 (max (max a b) c))).awp P h Q):(Prog.op (.mnx false [.int .i64 a,.int .i64 b,.int .i64 c]) k).awp P h Q:=by
 simp only[Prog.awp,AOp.go,qo,l6,Bool.false_eq_true,if_false]
 have e:∀ x y:Int,(if x < y then y else x)=max x y:=fun x y=>by split<;>omega
 simp only[e]
 exact hk
def EG (x:Wld):Prop:=yH x.c∧0≤x.time∧1≤x.next∧xH x.st∧(x.st.length:Int)=x.c.bZ∧gG x.b∧x.b.rate=x.c.rate∧x.b.aW=x.c.aW∧x.b.at_≤x.w.now∧cOk x.cache x.c.cache∧
 x.used=held x.st∧x.used≤x.c.budget∧xW x.w∧x.w.now≤100000∧(x.shut=true→¬ 0 < ((timers x.w).length:Int))∧(x.queue.length:Int)≤x.c.queue∧(∀ y∈x.queue,jq y)∧(∀ y∈x.out,jq y)∧
 ∀ d∈x.aH,kU d∧d.inv < x.time∧d.lin < x.time∧d.res < x.time
def Wn (x:Wld):Prop:=∀ t∈x.due,1≤t.id∧(1≤t.trace∧t.trace≤999)
theorem adl {h:AH} {x:Wld} {cs:List AV} {F:List Nat} (ok:Cel.ok x) (hs:Sz.sz x≤67108864) (r:Cel.rep h x cs F):
  aN Tryz.prog AL [.agg cs] h (.bool (bp (EG x∧(-1≤x.bH∧x.bH≤4)∧Wn x))):=by
 obtain⟨v0,v1,v2,v3,v4,v5,v6,v7,v8,v9,v10,F0,F1,F2,F3,F4,F5,F6,F7,F8,F9,F10,rfl,rfl,r0,r1,r2,r3,r4,r5,r6,r7,r8,r9,r10⟩:=r
 obtain⟨rY,yh,rF,wY,yX,uP,yg,yV,yD,oO,qY,qP,xP,qR⟩:=ok
 have hs:Sz.sz x.c+(x.st.length+szs x.st)+(x.cache.length+szs x.cache)+Sz.sz x.w+(x.due.length+szs x.due)+(x.queue.length+szs x.queue)+(x.out.length+szs x.out)+(x.tasks.length+szs x.tasks)+(x.aH.length+szs x.aH)≤67108864:=hs
 have hl1:=r1.small
 have hl6:=r6.small
 have hl7:=r7.small
 have Lp:=r10.small
 refine reader (ad5 _) (by simp only[old]) ?_
 unfold NS
 (repeat' first|refine vs ?_|((with_reducible refine Vv x.shut ?_);generalize hsh:x.shut=bsh;cases bsh)|(refine br ?_ ?_<;>first|exact bx|intro _)|((with_reducible refine aB bK ?_);(refine cK (eY) ?_ ?_<;>intro hb<;>(first|replace hb:=dx hb|replace hb:=dz hb)))|((with_reducible refine aB CB ?_);(refine aX (ahe (c:=x.c) rY.2.2.2.2.2.2.2 ah) ?_ ?_<;>intro hn))|((with_reducible refine aB Aj ?_);(refine aX (abC rF aP ah) ?_ ?_<;>intro hn))|((with_reducible refine aB BR ?_);(refine aX (ae1 (w:=x.w) aP ah ah ah) ?_ ?_<;>intro hn))|((with_reducible refine aB ug ?_);(refine aT (Je (w:=x.w) aP ah ah ah) ?_;rintro _ _ ⟨e_,_,_,_⟩;have n_:=e_.1;(try simp only[aO,aV] at n_)))|((with_reducible refine aB mK ?_);(refine aX (Ar (b:=x.b)) ?_ ?_<;>intro hn))|((with_reducible refine aB BX ?_);(refine aX (ae8 ah) ?_ ?_<;>intro hn))|((with_reducible refine aB Al ?_);refine aQ (abD (l:=x.st) aP ah) ?_)|((with_reducible refine aB wJ ?_);((first|refine cK (Ou (xs:=x.queue) oO aP ah) ?_ ?_|refine cK (Ou (xs:=x.out) qY aP ah) ?_ ?_)<;>intro hn<;>first|replace hn:=oW hn|replace hn:=DX hn))|fail)
 all_goals first
  |(refine pf fun k=>?_;obtain⟨⟨a1,a2,a3,a4,a5,a6,a7,a8,a9,a10,a11,a12,a13,a14,a15,a16,a17,a18,a19⟩,b1,b2⟩:=k;first|contradiction|omega|(have:=a15 (by assumption);omega))
  |skip
 all_goals
  refine aY x.due.length (fun i vs h1=>vs=[.int .i64 (i:Int)]∧i≤x.due.length∧Ext (h.push ⟨(x.cs v0 v1 v2 v3 v4 v5 v6 v7 v8 v9 v10),0,0⟩) h1∧bW x.due (fun _ t=>1≤t.id∧(1≤t.trace∧t.trace≤999)) i) ⟨rfl,Nat.zero_le _,aG,up0⟩ ?_
  rintro i vs h1 _ ⟨rfl,hi,e1,hu⟩
  simp only[g0]
  refine br (fun hlt=>?_) (fun hge=>?_)
  ·obtain⟨t,ht,-,-⟩:=aR (show i < x.due.length by omega)
   (repeat' first|refine vs ?_|(refine br ?_ ?_<;>first|exact bx|intro _)|((with_reducible refine aB bK ?_);(refine cK (eY) ?_ ?_<;>intro hb<;>(first|replace hb:=dx hb|replace hb:=dz hb)))|((with_reducible refine aC ?_);((refine ix ?_);rintro _ _ _ _ _ ⟨rfl,rfl⟩ _))|fail)
   all_goals first
    |exact pf fun k=>gY ht (by rintro⟨a1,a2⟩;omega) k.2.2
    |exact⟨by omega,rfl,by omega,aG,upS hu ht (by omega)⟩
  rw[show i=x.due.length by omega] at hu
  have anH:=dX hu
  clear hi hge hu
  (repeat' first|refine vs ?_|fail)
  refine aY x.aH.length (fun i vs h2=>vs=[.int .i64 (i:Int)]∧i≤x.aH.length∧Ext (h.push ⟨(x.cs v0 v1 v2 v3 v4 v5 v6 v7 v8 v9 v10),0,0⟩) h2∧bW x.aH (fun _ d=>kU d∧d.inv < x.time∧d.lin < x.time∧d.res < x.time) i) ⟨rfl,Nat.zero_le _,aG,up0⟩ ?_
  rintro i vs h2 _ ⟨rfl,hi,e2,hu⟩
  simp only[g0]
  refine br (fun hlt=>?_) (fun hge=>?_)
  ·obtain⟨t,ht,-,-⟩:=aR (show i < x.aH.length by omega)
   (repeat' first|refine vs ?_|(with_reducible refine alF ?_)|(refine br ?_ ?_<;>first|exact bx|intro _)|((with_reducible refine aB Cz ?_);(refine aX (ahd (d:=t)) ?_ ?_<;>intro hn))|((with_reducible refine aC ?_);((refine ix ?_);rintro _ _ _ _ _ ⟨_,rfl,_⟩ _))|fail)
   all_goals first
    |(refine pf fun k=>gY ht (by rintro⟨a1,a2⟩;first|contradiction|omega) k.1.2.2.2.2.2.2.2.2.2.2.2.2.2.2.2.2.2.2)
    |exact⟨by omega,rfl,by omega,aG,upS hu ht ⟨by assumption,by omega⟩⟩
  rw[show i=x.aH.length by omega] at hu
  have KD:=dX hu
  (repeat' first|refine vs ?_|fail)
  exact pt ⟨⟨by assumption,by omega,by omega,by assumption,by omega,by assumption,by omega,by omega,by omega,by assumption,by omega,by omega,by assumption,by omega,by intro hh;first|omega|(rw[hsh] at hh;cases hh),by omega,by assumption,by assumption,KD⟩,by omega,anH⟩
end Go.Proofs.YtekfdoknfcedpaaGreat
end
section
set_option linter.unusedSimpArgs false
set_option linter.unusedVariables false
set_option maxHeartbeats 8000000
namespace Go.Proofs.YtekfdoknfcedpaaGreat
open Go Go.Ab
section
def Ns (x0:AV):Prog:=.op (.box x0) fun a=>.op (.bE 1 0 [] []) fun b=>.loop [b,.int .i64 0] (fun b=>Lg 14 a fun a=>Ln 0 a fun a=>Bn .lss (g b 1) a fun a=>.ite a (.op (.bE 1 1 [.int .i64 0] [(0,1,.int .i64 (-1))]) fun a=>.op (.app 1 8 (g b 0) a) fun a=>Bn .add (g b 1) (.int .i64 1) fun b=>.leaf 0 [a,b]) (.leaf 2 [g b 0,g b 1])) fun b c=>aA b 1 (.leaf 1 c) (aA b 2 (.loop [.int .i64 (-1),.int .i64 0,.tup []] (fun b=>Lg 29 a fun d=>Ln 0 d fun d=>Bn .lss (g b 1) d fun d=>.ite d (Lg 29 a fun d=>Ix 12 d (g b 1) fun d=>Ld 12 d fun d=>.op (.alloc gu) fun e=>.op (.st 12 e d) fun _=>Ld 12 e fun d=>Cl Ck [d,g b 1] fun d=>.op (.una .not d) fun d=>.gop d false (.ldn 32 a) fun f=>.gop d false (.mv (g b 1)) fun i=>.gop d false (.call Bc [f,i]) fun f=>.gop d false (.una .not f) fun f=>Pk d (.bool true) f fun d=>Gf d false 9 e fun f=>Gf d false 31 a fun i=>.gop d false (.bin 0 .geq f i) fun f=>Pk d (.bool true) f fun d=>.ite d (.fin [.val (.bool false)]) (Ld 12 e fun d=>Lg 14 a fun a=>Ln 0 a fun a=>Cl GR [d,a] fun a=>Bn .geq a (.int .i64 0) fun d=>.scope (.ite d (Ix 1 (g c 0) a fun d=>.op (.ld1 d) fun d=>.op (.bin 0 .neq d (.int .i64 (-1))) fun d=>.ite d (.fin [.val (.bool false)]) (Ix 1 (g c 0) a fun a=>.op (.st 1 a (g b 1)) fun _=>.leaf 0 [])) (.leaf 0 [])) (fun _=>Ld 12 e fun a=>Cl wo [a] fun a=>.scope (.ite a (.op (.bin 0 .neq (g b 0) (.int .i64 (-1))) fun a=>.ite a (.fin [.val (.bool false)]) (.leaf 0 [g b 1])) (.leaf 0 [g b 0])) (fun a=>Bn .add (g b 1) (.int .i64 1) fun b=>.leaf 0 [g a 0,b,e]) fun a b=>aA a 1 (.leaf 1 b) .bad) fun a b=>aA a 1 (.leaf 1 b) .bad)) (.leaf 4 [g b 0,g b 1,g b 2])) fun b d=>aA b 1 (.leaf 1 d) (aA b 4 (.loop [.int .i64 0] (fun b=>Lg 14 a fun d=>Ln 0 d fun d=>Bn .lss (g b 0) d fun d=>.ite d (Lg 14 a fun a=>Ix 2 a (g b 0) fun a=>Lg 0 a fun a=>Ix 1 (g c 0) (g b 0) fun c=>.op (.ld1 c) fun c=>Bn .neq a c fun a=>.ite a (.fin [.val (.bool false)]) (Bn .add (g b 0) (.int .i64 1) fun a=>.leaf 0 [a])) (.leaf 6 [g b 0])) fun b c=>aA b 1 (.leaf 1 c) (aA b 6 (Lg 15 a fun a=>Bn .eql a (g d 0) fun a=>.fin [.val a]) .bad)) .bad)) .bad)
theorem adD (x0:AV):CC Tryz.prog Au [x0] (Ns x0):=cc Tryz.func107 [1,3,4,5,6,7,9] (fun r=>if r=25 then[(0,[]),(1,[]),(2,[]),(3,[]),(4,[]),(5,[]),(6,[]),(7,[]),(8,[]),(9,[]),(10,[])] else[])
end
theorem ac2 {h:AH} {x:Wld} {cs:List AV} {F:List Nat} (ok:Cel.ok x) (hs:Sz.sz x≤67108864) (r:Cel.rep h x cs F):
  aN Tryz.prog Au [.agg cs] h (.bool (bp (Vj x))):=by
 obtain⟨v0,v1,v2,v3,v4,v5,v6,v7,v8,v9,v10,F0,F1,F2,F3,F4,F5,F6,F7,F8,F9,F10,rfl,rfl,r0,r1,r2,r3,r4,r5,r6,r7,r8,r9,r10⟩:=r
 obtain⟨rY,yh,rF,wY,yX,uP,yg,yV,yD,oO,qY,qP,xP,qR⟩:=ok
 have hs:Sz.sz x.c+(x.st.length+szs x.st)+(x.cache.length+szs x.cache)+Sz.sz x.w+(x.due.length+szs x.due)+(x.queue.length+szs x.queue)+(x.out.length+szs x.out)+(x.tasks.length+szs x.tasks)+(x.aH.length+szs x.aH)≤67108864:=hs
 have hl1:=r1.small
 have hl9:=r9.small
 refine reader (adD _) (by simp only[old]) ?_
 unfold Ns
 refine vs ?_
 obtain⟨re,oe⟩:=gF (h:=h.push ⟨(x.cs v0 v1 v2 v3 v4 v5 v6 v7 v8 v9 v10),0,0⟩) (α:=Int) (w:=1) rfl
 refine aY x.st.length (fun i vs h1=>∃ v G,vs=[v,.int .i64 (i:Int)]∧i≤x.st.length∧Ext (h.push ⟨(x.cs v0 v1 v2 v3 v4 v5 v6 v7 v8 v9 v10),0,0⟩) h1∧au h1 v (List.replicate i (-1:Int)) G∧Own (h.n+1) h1 G) ⟨_,_,rfl,Nat.zero_le _,aG,re,oe _ (Nat.le_refl _)⟩ ?_
 rintro i vs h1 _ ⟨v,G,rfl,hi,e1,rG,oG⟩
 have n1:=e1.1
 simp only[aO] at n1
 simp only[g0,g1]
 refine vs ?_
 refine br (fun hlt=>?_) (fun hge=>?_)
 ·have hlr:(List.replicate i (-1:Int)).length=i:=by simp
  refine vs ?_
  refine lq (n:=h.n+1) (xs:=List.replicate i (-1:Int)) (a:=-1) (G:=[]) rG ⟨rfl,rfl⟩ (by simpa using oG) n1 rfl (by omega) (by omega) ?_
  intro v' h' F' ek kp r' o' _
  (repeat' first|refine vs ?_|fail)
  exact⟨by omega,v',F',rfl,by omega,ek _ e1 (by simp),by rw[List.replicate_succ' (n:=i)];exact r',o'⟩
 have ei:i=x.st.length:=by omega
 subst ei
 (repeat' first|refine vs ?_|((with_reducible refine aJ ?_);simp only[g0,g1,g2]))
 refine aY x.tasks.length (fun i vs h2=>∃ y1 hs r G,vs=[.int .i64 r,.int .i64 (i:Int),y1]∧i≤x.tasks.length∧Ext (h.push ⟨(x.cs v0 v1 v2 v3 v4 v5 v6 v7 v8 v9 v10),0,0⟩) h2∧h.n+1≤h2.n∧hs.length=x.st.length∧dS x.st.length x.tasks i=some (hs,r)∧au h2 v hs G∧Own (h.n+1) h2 G∧bW x.tasks (fun k t=>rE x k t∧t.stamp < x.next) i) ⟨_,_,_,G,rfl,Nat.zero_le _,aG,n1,by simp,rfl,rG,oG,up0⟩ ?_
 clear hi hge e1 n1 rG oG re oe
 rintro i vs h2 _ ⟨y1,hs',r',G',rfl,hi,e2,hn2,hlen,hlk,rG',oG',hu⟩
 simp only[g0,g1,g2]
 refine vs ?_
 refine br (fun hlt=>?_) (fun hge=>?_)
 ·obtain⟨t,ht,-,-⟩:=aR (show i < x.tasks.length by omega)
  have hm:=List.mem_of_getElem? ht
  have hsz:=bI hm
  have okt:=qP t hm
  have hbz:=Kh t x.st.length
  refine vs ?_
  refine bS r9 ht rfl ?_
  rintro b o _ Fi a ⟨va,vb,Fa,Fb,rfl,rfl,ra,rb⟩ _
  (repeat' first|refine vs ?_|(refine br ?_ ?_<;>first|exact bx|intro _)|((with_reducible refine aB Ck ?_);(refine aX (agK (t:=t) okt (by omega) ah ah) ?_ ?_<;>intro hn))|((with_reducible refine aB Bc ?_);(refine aX (aen ht (Tp (by assumption)) (ai4 (by assumption)) ⟨_,_,_,_,_,_,_,_,_,_,_,_,_,_,_,_,_,_,_,_,_,_,rfl,rfl,ah,ah,ah,ah,ah,ah,ah,ah,ah,ah,ah⟩) ?_ ?_<;>intro hn))|fail)
  all_goals first
   |(refine pf fun k=>?_;have k:=k.1 i t ht;first|exact absurd k.1.1 (by assumption)|exact absurd k.1.2 (by assumption)|(have:=k.2;omega))
   |skip
  all_goals
   have hD:rE x i t∧t.stamp < x.next:=⟨⟨by assumption,by assumption⟩,by omega⟩
   refine aQ (Z8 (t:=t)) ?_
   refine br (fun lF=>?_) (fun hlt2=>?_)
   ·have hzl:=hbz.2 lF
    obtain⟨y,hy,-,-⟩:=aR (show(dU t x.st.length).toNat < hs'.length by omega)
    refine vs ?_
    refine U5 ah (by omega) hy ?_
    refine br (fun hne=>?_) (fun heq=>?_)
    ·(repeat' first|refine vs ?_|fail)
     exact pf fun k=>by
      obtain⟨-,h5,r5,hl5,-⟩:=k
      rw[oI (TL hlk ht (Uc lF hy hne)) (by omega)] at hl5;cases hl5
    ·refine dw (Kr (n:=h.n+1) (y:=i) ah bJ (by omega) (by omega) ?_)
     intro h3 ek3 kp3 hn3 rG3 oG3
     have e3:=ek3 _ (aG:Ext (h.push ⟨(x.cs v0 v1 v2 v3 v4 v5 v6 v7 v8 v9 v10),0,0⟩) _) (by simp)
     have hsS:=J9 (k:=i) lF hy heq
     have bt:Bk h3 h2.n [.int .i64 t.op,.int .i64 t.pc,.int .i64 t.s.trace,.int .i64 t.s.id,.int .i64 t.s.start,.int .i64 t.s.fin,.bool t.s.err,va,.int .i64 t.trace,.int .i64 t.stamp,vb,.int .i64 t.h] 0:=bR kp3 bA (vB rG' (Nat.le_refl _))
     (repeat' first|refine vs ?_|(refine br ?_ ?_<;>first|exact bx|intro _)|((with_reducible refine aB wo ?_);(refine aX (Mw (t:=t)) ?_ ?_<;>intro hn))|fail)
     all_goals first
      |(refine pf fun k=>?_;obtain⟨-,h5,r5,hl5,-⟩:=k;rw[oI (DT hlk ht (Ea (by assumption) (by assumption))) (by omega)] at hl5;cases hl5)
      |exact⟨by omega,_,_,_,_,rfl,by omega,aG,aP,by simpa using hlen,ni hlk ht hsS (xY (by assumption) (by assumption)),ah,bJ,upS hu ht hD⟩
      |exact⟨by omega,_,_,_,_,rfl,by omega,aG,aP,by simpa using hlen,ni hlk ht hsS (xZ (by assumption)),ah,bJ,upS hu ht hD⟩
   ·have hsS:=Ka (k:=i) (hs:=hs') hlt2
    (repeat' first|refine vs ?_|(refine br ?_ ?_<;>first|exact bx|intro _)|((with_reducible refine aB wo ?_);(refine aX (Mw (t:=t)) ?_ ?_<;>intro hn))|fail)
    all_goals first
     |(refine pf fun k=>?_;obtain⟨-,h5,r5,hl5,-⟩:=k;rw[oI (DT hlk ht (Ea (by assumption) (by assumption))) (by omega)] at hl5;cases hl5)
     |exact⟨by omega,_,_,_,_,rfl,by omega,aG,aP,hlen,ni hlk ht hsS (xY (by assumption) (by assumption)),ah,bJ,upS hu ht hD⟩
     |exact⟨by omega,_,_,_,_,rfl,by omega,aG,aP,hlen,ni hlk ht hsS (xZ (by assumption)),ah,bJ,upS hu ht hD⟩
 ·have ei:i=x.tasks.length:=by omega
  subst ei
  have hu:=iU hu
  (repeat' first|refine vs ?_|((with_reducible refine aJ ?_);simp only[g0,g1,g2]))
  refine aY x.st.length (fun i vs h3=>vs=[.int .i64 (i:Int)]∧i≤x.st.length∧Ext h2 h3∧bW x.st (fun i s=>hs'[i]? =some s.held) i) ⟨rfl,Nat.zero_le _,Ext.refl _,up0⟩ ?_
  rintro i vs h3 _ ⟨rfl,hi3,e3,hu3⟩
  simp only[g0]
  refine vs ?_
  refine br (fun hlt=>?_) (fun Lr=>?_)
  ·obtain⟨s,hx,-,-⟩:=aR (show i < x.st.length by omega)
   obtain⟨y,hy,-,-⟩:=aR (show i < hs'.length by omega)
   (repeat' first|refine vs ?_|(refine br ?_ ?_<;>first|exact bx|intro _)|((with_reducible refine aC ?_);((refine ix ?_);first|rintro _ _ _ _ _ ⟨rfl,rfl⟩ _|rintro _ _ _ _ _ ⟨_,rfl,_⟩ _))|fail)
   ·exact pf fun k=>by
     obtain⟨-,h5,r5,hl5,hh,-⟩:=k
     rw[hlk] at hl5;cases hl5
     have:=hh i s hx
     rw[hy] at this;cases this
     contradiction
   ·exact⟨by omega,rfl,by omega,aG,upS hu3 hx (by rw[hy];congr 1;omega)⟩
  ·rw[show i=x.st.length by omega] at hu3
   have hu3:=iU hu3
   (repeat' first|refine vs ?_|(refine br ?_ ?_<;>first|exact bx|intro _)|fail)
   ·exact pt ⟨hu,_,_,hlk,hu3,by assumption⟩
   ·exact pf fun k=>by
     obtain⟨-,h5,r5,hl5,hh,hr⟩:=k
     rw[hlk] at hl5;cases hl5
     contradiction
end Go.Proofs.YtekfdoknfcedpaaGreat
end
section
set_option linter.unusedSimpArgs false
set_option linter.unusedVariables false
set_option maxHeartbeats 8000000
namespace Go.Proofs.YtekfdoknfcedpaaGreat
open Go Go.Ab
section
def Nt (x0 x1 x2:AV):Prog:=.op (.box x0) fun a=>.op (.fad 22 a) fun b=>Ld 4 b fun b=>.op (.fad 26 a) fun c=>.op (.ld1 c) fun d=>Cl qH [b] fun b=>.chk (.ld1 c) d (.op (.app 3 24 b d) fun b=>.loop [.int .i64 0] (fun a=>Ln 0 b fun c=>Bn .lss (g a 0) c fun c=>.ite c (Ix 3 b (g a 0) fun c=>Lg 0 c fun c=>Bn .eql c x2 fun c=>.gop c true (.mv b) fun b=>.gop c true (.mv (g a 0)) fun d=>.gop c true (.idx 3 b d) fun b=>Gf c true 1 b fun b=>.gop c true (.mv x1) fun d=>.gop c true (.bin 0 .eql b d) fun b=>Pk c b (.bool false) fun b=>.ite b (.fin [.val (.bool true)]) (Bn .add (g a 0) (.int .i64 1) fun a=>.leaf 0 [a])) (.leaf 2 [g a 0])) fun b c=>aA b 1 (.leaf 1 c) (aA b 2 (.loop [.int .i64 0] (fun b=>Lg 29 a fun c=>Ln 0 c fun c=>Bn .lss (g b 0) c fun c=>.ite c (Lg 29 a fun c=>Ix 12 c (g b 0) fun c=>Lg 0 c fun c=>Bn .eql c (.int .i64 2) fun c=>Gf c true 29 a fun d=>.gop c true (.mv (g b 0)) fun e=>.gop c true (.idx 12 d e) fun d=>Gf c true 1 d fun d=>.gop c true (.bin 0 .neq d (.int .i64 3)) fun d=>Pk c d (.bool false) fun c=>Gf c true 29 a fun d=>.gop c true (.mv (g b 0)) fun e=>.gop c true (.idx 12 d e) fun d=>Gf c true 9 d fun d=>.gop c true (.mv x2) fun e=>.gop c true (.bin 0 .eql d e) fun d=>Pk c d (.bool false) fun c=>Gf c true 29 a fun a=>.gop c true (.mv (g b 0)) fun d=>.gop c true (.idx 12 a d) fun a=>Gf c true 8 a fun a=>.gop c true (.mv x1) fun d=>.gop c true (.bin 0 .eql a d) fun a=>Pk c a (.bool false) fun a=>.ite a (.fin [.val (.bool true)]) (Bn .add (g b 0) (.int .i64 1) fun a=>.leaf 0 [a])) (.leaf 4 [g b 0])) fun a b=>aA a 1 (.leaf 1 b) (aA a 4 (.fin [.val (.bool false)]) .bad)) .bad))
theorem adE (x0 x1 x2:AV):CC Tryz.prog Av [x0,x1,x2] (Nt x0 x1 x2):=cc Tryz.func179 [1,2,3,7,8,9] (fun r=>if r=1 then[(0,[]),(1,[]),(3,[]),(4,[]),(2,[4]),(5,[]),(6,[])] else[])
abbrev aag (v24:AV) (v23:AV) (v1:AV) (vs8:List AV):Prog:=.op (.st 4 v24 v23) fun _=>Lg 1 v24 fun a=>Lg 31 v1 fun b=>Bn .geq a b fun a=>.gop a false (.ldn 32 v1) fun b=>Gf a false 0 v24 fun c=>Gf a false 1 v24 fun d=>.gop a false (.call Av [b,c,d]) fun b=>.gop a false (.una .not b) fun b=>Pk a (.bool true) b fun a=>.ite a (.fin [.val (.bool false)]) (Bn .add (g vs8 0) (.int .i64 1) fun a=>.leaf 0 [a])
abbrev aaf (v73:AV) (v76:AV) (am6:List AV):Prog:=Gf v73 false 1 v76 fun a=>.gop v73 false (.call bP [a,.int .i64 1,.int .i64 999]) fun a=>.gop v73 false (.una .not a) fun a=>Pk v73 (.bool true) a fun a=>.ite a (.fin [.val (.bool false)]) (Bn .add (g am6 0) (.int .i64 1) fun a=>.leaf 0 [a])
def MJ (x0:AV):Prog:=.op (.box x0) fun a=>.loop [.int .i64 0,.tup []] (fun b=>Lg 14 a fun c=>Ln 0 c fun c=>Bn .lss (g b 0) c fun c=>.ite c (.loop [.int .i64 0] (fun c=>Lg 14 a fun d=>Ix 2 d (g b 0) fun d=>Lg 1 d fun d=>Ln 0 d fun d=>Bn .lss (g c 0) d fun d=>.ite d (Lg 14 a fun d=>Ix 2 d (g b 0) fun b=>Lg 1 b fun b=>Ix 4 b (g c 0) fun b=>Ld 4 b fun b=>.op (.alloc [.int .i64 0,.int .i64 0,.int .i64 0,.aF]) fun d=>aag d b a c) (.leaf 4 [g c 0])) fun a c=>aA a 1 (.leaf 1 c) (aA a 4 (Bn .add (g b 0) (.int .i64 1) fun a=>.leaf 0 [a,g c 0]) .bad)) (.leaf 2 [g b 0,g b 1])) fun b c=>aA b 1 (.leaf 1 c) (aA b 2 (.loop [.int .i64 0] (fun b=>Lg 20 a fun c=>Ln 0 c fun c=>Bn .lss (g b 0) c fun c=>.ite c (Lg 20 a fun c=>Ix 3 c (g b 0) fun c=>Lg 1 c fun c=>Lg 31 a fun a=>Bn .geq c a fun a=>.ite a (.fin [.val (.bool false)]) (Bn .add (g b 0) (.int .i64 1) fun a=>.leaf 0 [a])) (.leaf 6 [g b 0])) fun b c=>aA b 1 (.leaf 1 c) (aA b 6 (.op (.fad 22 a) fun b=>Ld 4 b fun b=>.op (.fad 26 a) fun c=>.op (.ld1 c) fun d=>Cl qH [b] fun b=>.chk (.ld1 c) d (.op (.app 3 24 b d) fun b=>.loop [.int .i64 0] (fun c=>Ln 0 b fun d=>Bn .lss (g c 0) d fun d=>.ite d (Ix 3 b (g c 0) fun d=>Lg 0 d fun d=>Lg 31 a fun a=>Bn .sub a (.int .i64 1) fun a=>Cl bP [d,.int .i64 1,a] fun a=>.op (.una .not a) fun a=>.gop a false (.mv b) fun b=>.gop a false (.mv (g c 0)) fun d=>.gop a false (.idx 3 b d) fun b=>aaf a b c) (.leaf 8 [g c 0])) fun a b=>aA a 1 (.leaf 1 b) (aA a 8 (.fin [.val (.bool true)]) .bad))) .bad)) .bad)
theorem ab4 (x0:AV):CC Tryz.prog zS [x0] (MJ x0):=cc Tryz.func106 [1,3,4,6,7,8] (fun r=>if r=13 then[(0,[]),(1,[]),(2,[]),(3,[]),(4,[]),(5,[]),(6,[]),(7,[]),(8,[])] else if r=15 then[(0,[]),(1,[]),(3,[]),(4,[]),(2,[4]),(5,[]),(6,[])] else if r=19 then[(0,[]),(1,[]),(2,[]),(3,[]),(4,[]),(5,[]),(6,[]),(7,[]),(8,[]),(9,[]),(10,[]),(11,[]),(12,[]),(13,[]),(14,[]),(15,[]),(16,[]),(17,[]),(18,[])] else[])
end
def dJ (x:Wld):List Ab.Timer:=timers x.w++x.due
def isJ (id stamp:Int) (t:Task):Prop:=t.op=2∧t.pc≠3∧t.stamp=stamp∧t.trace=id
def known (x:Wld) (id stamp:Int):Prop:=(∃ t∈dJ x,t.id=stamp∧t.trace=id)∨∃ t∈x.tasks,isJ id stamp t
theorem JW (w:dN):(timers w).length≤Sz.sz w:=by
 have h0:=kT w.near
 have h1:=kT w.far
 have hsz:Sz.sz w=(w.near.length+szs w.near)+(w.far.length+szs w.far)+(w.rest.length+szs w.rest):=rfl
 unfold timers
 simp only[List.length_append];omega
theorem WZ {α:Type} {l:List α} {p:α→Prop} (h:∀ y∈l,¬ p y): ¬ ∃ y∈l,p y:=fun⟨y,hy,hp⟩=>h y hy hp
theorem ac3 {h:AH} {x:Wld} {cs:List AV} {F:List Nat} {id stamp:Int} (hs:Sz.sz x≤67108864) (r:Cel.rep h x cs F):
  aN Tryz.prog Av [.agg cs,.int .i64 id,.int .i64 stamp] h (.bool (bp (known x id stamp))):=by
 obtain⟨v0,v1,v2,v3,v4,v5,v6,v7,v8,v9,v10,F0,F1,F2,F3,F4,F5,F6,F7,F8,F9,F10,rfl,rfl,r0,r1,r2,r3,r4,r5,r6,r7,r8,r9,r10⟩:=r
 have hs:Sz.sz x.c+(x.st.length+szs x.st)+(x.cache.length+szs x.cache)+Sz.sz x.w+(x.due.length+szs x.due)+(x.queue.length+szs x.queue)+(x.out.length+szs x.out)+(x.tasks.length+szs x.tasks)+(x.aH.length+szs x.aH)≤67108864:=hs
 have hl9:=r9.small
 have htb:=JW x.w
 refine reader (adE _ _ _) (by simp only[old]) ?_
 unfold Nt
 (repeat' first|refine vs ?_|fail)
 refine aT (Cb (w:=x.w) aP ah ah ah) ?_
 rintro u h1 ⟨e1,G1,q1,o1⟩
 have n1:=e1.1
 simp only[aO] at n1 o1
 refine vs ?_
 refine nL (n:=h.n+1) (xs:=timers x.w) (ys:=x.due) (Fx:=G1) q1 (ah:au _ v6 x.due F6) o1 aP rfl (by omega) (by omega) ?_
 intro v h2 G2 ek kp q2 o2
 have e2:=ek _ e1 (by simp)
 have n2:=e2.1
 simp only[aO] at n2
 have hlen:(timers x.w++x.due).length=(timers x.w).length+x.due.length:=by simp
 clear ek kp
 refine aY (timers x.w++x.due).length (fun i vs h3=>vs=[.int .i64 (i:Int)]∧i≤(timers x.w++x.due).length∧h3=h2∧bW (timers x.w++x.due) (fun _ t=>¬ (t.id=stamp∧t.trace=id)) i) ⟨rfl,Nat.zero_le _,rfl,up0⟩ ?_
 rintro i vs h3 _ ⟨rfl,hi,rfl,hu⟩
 simp only[g0]
 refine vs ?_
 refine br (fun hlt=>?_) (fun hge=>?_)
 ·obtain⟨t,ht,-,-⟩:=aR (show i < (timers x.w++x.due).length by omega)
  (repeat' first|refine vs ?_|(refine br ?_ ?_<;>first|exact bx|intro _)|((with_reducible refine aC ?_);((refine ix ?_);rintro _ _ _ _ _ ⟨rfl,rfl⟩ _))|fail)
  all_goals first
   |exact pt (.inl ⟨t,List.mem_of_getElem? ht,by omega,by omega⟩)
   |exact⟨by omega,rfl,by omega,rfl,upS hu ht (by omega)⟩
 rw[show i=(timers x.w++x.due).length by omega] at hu
 have hu:=dX hu
 (repeat' first|refine vs ?_|fail)
 refine aY x.tasks.length (fun i vs h4=>vs=[.int .i64 (i:Int)]∧i≤x.tasks.length∧h4=h3∧bW x.tasks (fun _ t=>¬ isJ id stamp t) i) ⟨rfl,Nat.zero_le _,rfl,up0⟩ ?_
 clear hi hge
 rintro i vs h4 _ ⟨rfl,hi,rfl,hu2⟩
 simp only[g0]
 refine vs ?_
 refine br (fun hlt=>?_) (fun hge=>?_)
 ·obtain⟨t,ht,-,-⟩:=aR (show i < x.tasks.length by omega)
  (repeat' first|refine vs ?_|(refine br ?_ ?_<;>first|exact bx|intro _)|((with_reducible refine aC ?_);((refine ix ?_);rintro _ _ _ _ _ ⟨_,_,_,_,rfl,rfl,_,_⟩ _))|fail)
  all_goals first
   |exact pt (.inr ⟨t,List.mem_of_getElem? ht,by unfold isJ;omega⟩)
   |exact⟨by omega,rfl,by omega,rfl,upS hu2 ht (by unfold isJ;omega)⟩
 rw[show i=x.tasks.length by omega] at hu2
 have hu2:=dX hu2
 (repeat' first|refine vs ?_|fail)
 refine pf ?_
 rintro(k|k)
 ·exact WZ hu k
 ·exact WZ hu2 k
def Uf (x:Wld):Prop:=(∀ (i:Nat) (s:aU),x.st[i]? =some s→∀ t∈s.l,t.stamp < x.next∧known x t.id t.stamp)∧(∀ v∈x.cache,v.stamp < x.next)∧∀ t∈dJ x,(1≤t.id∧t.id≤x.next - 1)∧(1≤t.trace∧t.trace≤999)
theorem aa6 {h:AH} {x:Wld} {cs:List AV} {F:List Nat} (hnx:1≤x.next) (ok:Cel.ok x) (hs:Sz.sz x≤67108864) (r:Cel.rep h x cs F):
  aN Tryz.prog zS [.agg cs] h (.bool (bp (Uf x))):=by
 have hs0:=hs
 obtain⟨v0,v1,v2,v3,v4,v5,v6,v7,v8,v9,v10,F0,F1,F2,F3,F4,F5,F6,F7,F8,F9,F10,rfl,rfl,r0,r1,r2,r3,r4,r5,r6,r7,r8,r9,r10⟩:=r
 obtain⟨rY,yh,rF,wY,yX,uP,yg,yV,yD,oO,qY,qP,xP,qR⟩:=ok
 have hs:Sz.sz x.c+(x.st.length+szs x.st)+(x.cache.length+szs x.cache)+Sz.sz x.w+(x.due.length+szs x.due)+(x.queue.length+szs x.queue)+(x.out.length+szs x.out)+(x.tasks.length+szs x.tasks)+(x.aH.length+szs x.aH)≤67108864:=hs
 have qR: -9223372036854775808≤x.next∧x.next≤9223372036854775807:=qR
 have hl1:=r1.small
 have hl2:=r2.small
 have htb:=JW x.w
 refine reader (ab4 _) (by simp only[old]) ?_
 unfold MJ
 (repeat' first|refine vs ?_|fail)
 refine aY x.st.length (fun i vs h1=>∃ z,vs=[.int .i64 (i:Int),z]∧i≤x.st.length∧Ext (h.push ⟨(x.cs v0 v1 v2 v3 v4 v5 v6 v7 v8 v9 v10),0,0⟩) h1∧bW x.st (fun _ s=>∀ t∈s.l,t.stamp < x.next∧known x t.id t.stamp) i) ⟨_,rfl,Nat.zero_le _,aG,up0⟩ ?_
 rintro i vs h1 _ ⟨z,rfl,hi,e1,hu⟩
 simp only[g0,g1]
 refine vs ?_
 refine br (fun hlt=>?_) (fun hge=>?_)
 ·obtain⟨s,hx,-,-⟩:=aR (show i < x.st.length by omega)
  have hm:=bI (List.mem_of_getElem? hx)
  have hx2:Sz.sz s=s.l.length+szs s.l:=rfl
  refine vs ?_
  refine aY s.l.length (fun k vs h2=>vs=[.int .i64 (k:Int)]∧k≤s.l.length∧Ext h1 h2∧bW s.l (fun _ t=>t.stamp < x.next∧known x t.id t.stamp) k) ⟨rfl,Nat.zero_le _,Ext.refl _,up0⟩ ?_
  rintro k vs h2 _ ⟨rfl,hk,e2,hu2⟩
  simp only[g0]
  refine vs ?_
  refine bS r1 hx rfl ?_
  rintro b o _ Fi a ⟨vs1,rfl,rs⟩ _
  refine vs ?_
  refine br (fun hlt2=>?_) (fun lF=>?_)
  ·obtain⟨t,ht,-,-⟩:=aR (show k < s.l.length by omega)
   (repeat' first|refine vs ?_|(refine br ?_ ?_<;>first|exact bx|intro _)|((with_reducible refine aB Av ?_);(refine aX (ac3 (x:=x) hs0 ⟨_,_,_,_,_,_,_,_,_,_,_,_,_,_,_,_,_,_,_,_,_,_,rfl,rfl,ah,ah,ah,ah,ah,ah,ah,ah,ah,ah,ah⟩) ?_ ?_<;>intro hn))|((with_reducible refine aC ?_);((refine ix ?_);rintro _ _ _ _ _ ⟨_,rfl,_⟩ _))|fail)
   all_goals first
    |(refine pf fun kk=>?_;have kk:=kk.1 i s hx t (List.mem_of_getElem? ht);first|omega|exact absurd kk.2 (by assumption))
    |exact⟨by omega,rfl,by omega,aG,upS hu2 ht ⟨by omega,by assumption⟩⟩
  ·rw[show k=s.l.length by omega] at hu2
   have hu2:=dX hu2
   (repeat' first|refine vs ?_|fail)
   exact⟨by omega,_,rfl,by omega,aG,upS hu hx hu2⟩
 rw[show i=x.st.length by omega] at hu
 have hA:=iU hu
 clear hu hi hge
 (repeat' first|refine vs ?_|fail)
 refine aY x.cache.length (fun i vs h2=>vs=[.int .i64 (i:Int)]∧i≤x.cache.length∧h2=h1∧bW x.cache (fun _ v=>v.stamp < x.next) i) ⟨rfl,Nat.zero_le _,rfl,up0⟩ ?_
 rintro i vs h2 _ ⟨rfl,hi,rfl,hu⟩
 simp only[g0]
 refine vs ?_
 refine br (fun hlt=>?_) (fun hge=>?_)
 ·obtain⟨t,ht,-,-⟩:=aR (show i < x.cache.length by omega)
  (repeat' first|refine vs ?_|(refine br ?_ ?_<;>first|exact bx|intro _)|((with_reducible refine aC ?_);((refine ix ?_);rintro _ _ _ _ _ ⟨rfl,rfl⟩ _))|fail)
  all_goals first
   |(refine pf fun kk=>?_;have kk:=kk.2.1 t (List.mem_of_getElem? ht);omega)
   |exact⟨by omega,rfl,by omega,rfl,upS hu ht (by omega)⟩
 rw[show i=x.cache.length by omega] at hu
 have hB:=dX hu
 clear hu hi hge
 (repeat' first|refine vs ?_|fail)
 refine aT (Cb (w:=x.w) aP ah ah ah) ?_
 rintro u h3 ⟨e3,G1,q1,o1⟩
 have n1:=e1.1
 have n3:=e3.1
 simp only[aO] at n1
 refine vs ?_
 refine nL (n:=h.n+1) (xs:=timers x.w) (ys:=x.due) (Fx:=G1) q1 (ah:au _ v6 x.due F6) (o1.mono (by omega) fun _ _=>rfl) aP rfl (by omega) (by omega) ?_
 intro v h4 G2 ek kp q2 o2
 have e4:=ek _ (aG:Ext (h.push ⟨(x.cs v0 v1 v2 v3 v4 v5 v6 v7 v8 v9 v10),0,0⟩) h3) (by simp)
 have n4:=e4.1
 simp only[aO] at n4
 have hlen:(timers x.w++x.due).length=(timers x.w).length+x.due.length:=by simp
 clear ek kp
 refine aY (timers x.w++x.due).length (fun i vs h5=>vs=[.int .i64 (i:Int)]∧i≤(timers x.w++x.due).length∧h5=h4∧bW (timers x.w++x.due) (fun _ t=>(1≤t.id∧t.id≤x.next - 1)∧(1≤t.trace∧t.trace≤999)) i) ⟨rfl,Nat.zero_le _,rfl,up0⟩ ?_
 rintro i vs h5 _ ⟨rfl,hi,rfl,hu⟩
 simp only[g0]
 refine vs ?_
 refine br (fun hlt=>?_) (fun hge=>?_)
 ·obtain⟨t,ht,-,-⟩:=aR (show i < (timers x.w++x.due).length by omega)
  (repeat' first|refine vs ?_|((with_reducible refine aB bP ?_);(refine cK (fV) ?_ ?_<;>intro hb<;>(first|replace hb:=dx hb|replace hb:=dz hb)))|((with_reducible refine aC ?_);((refine ix ?_);rintro _ _ _ _ _ ⟨rfl,rfl⟩ _))|fail)
  all_goals first
   |(refine pf fun kk=>?_;have kk:=kk.2.2 t (List.mem_of_getElem? ht);omega)
   |exact⟨by omega,rfl,by omega,rfl,upS hu ht (by omega)⟩
 rw[show i=(timers x.w++x.due).length by omega] at hu
 have hC:=dX hu
 (repeat' first|refine vs ?_|fail)
 exact pt ⟨hA,hB,hC⟩
end Go.Proofs.YtekfdoknfcedpaaGreat
end
section
set_option linter.unusedSimpArgs false
set_option linter.unusedVariables false
set_option maxHeartbeats 8000000
namespace Go.Proofs.YtekfdoknfcedpaaGreat
open Go Go.Ab
section
def Mq (x0 x1:AV):Prog:=.op (.box x0) fun a=>Lg 0 a fun b=>Lg 1 x1 fun c=>Bn .eql b c fun b=>Gf b true 1 a fun a=>Gf b true 0 x1 fun c=>.gop b true (.bin 0 .eql a c) fun a=>Pk b a (.bool false) fun a=>.fin [.val a]
theorem aa2 (x0 x1:AV):CC Tryz.prog Hl [x0,x1] (Mq x0 x1):=cc Tryz.func209
def Ml (x0 x1:AV):Prog:=Lg 31 x1 fun a=>Bn .geq x0 a fun a=>.fin [.val a]
theorem aa1 (x0 x1:AV):CC Tryz.prog Hg [x0,x1] (Ml x0 x1):=cc Tryz.func211
def LJ (x0 x1:AV):Prog:=Cl sQ [x0,x1] fun a=>Bn .geq a (.int .i64 0) fun a=>.fin [.val a]
theorem Zg (x0 x1:AV):CC Tryz.prog zm [x0,x1] (LJ x0 x1):=cc Tryz.func208
def LY (x0 x1:AV):Prog:=Ln 0 x0 fun a=>.loop [.int .i64 0] (fun b=>Bn .lss (g b 0) a fun a=>.ite a (Ix 1 x0 (g b 0) fun a=>.op (.ld1 a) fun a=>.op (.fE x1 [a]) fun a=>.ite a (.fin [.val (g b 0)]) (Bn .add (g b 0) (.int .i64 1) fun a=>.leaf 0 [a])) (.leaf 2 [g b 0])) fun a b=>aA a 1 (.leaf 1 b) (aA a 2 (.fin [.val (.int .i64 (-1))]) .bad)
theorem ZN (x0 x1:AV):CC Tryz.prog zA [x0,x1] (LY x0 x1):=cc Tryz.func277 [0,1,7,8] (fun _=>[])
def LQ (x0 x1:AV):Prog:=Cl zA [x0,x1] fun a=>Bn .geq a (.int .i64 0) fun a=>.fin [.val a]
theorem Zr (x0 x1:AV):CC Tryz.prog zq [x0,x1] (LQ x0 x1):=cc Tryz.func210
abbrev aaK (v46:AV) (vU:List AV) (v44:AV):Prog:=.op (.ld1 v46) fun a=>.op (.bE 1 1 [.int .i64 0] [(0,1,a)]) fun a=>.op (.app 1 8 (g vU 0) a) fun a=>Lg 0 v44 fun b=>Bn .eql b (.int .i64 2) fun b=>Gf b true 1 v44 fun c=>.gop b true (.bin 0 .neq c (.int .i64 3)) fun c=>Pk b c (.bool false) fun b=>.scope (.ite b (Lg 9 v44 fun a=>Lg 8 v44 fun b=>.op (.build [.int .i64 0,.int .i64 0,.int .i64 0] [(0,1,a),(1,1,b)]) fun a=>.op (.bE 3 1 [.int .i64 0,.int .i64 0,.int .i64 0] [(0,3,a)]) fun a=>.op (.app 3 24 (g vU 1) a) fun a=>.leaf 0 [a]) (.leaf 0 [g vU 1])) (fun b=>Bn .add (g vU 2) (.int .i64 1) fun c=>.leaf 0 [a,g b 0,c]) fun a b=>aA a 1 (.leaf 1 b) .bad
abbrev aaJ (v74:AV) (WX:List AV) (vU:List AV):Prog:=Ld 4 v74 fun a=>.op (.alloc [.int .i64 0,.int .i64 0,.int .i64 0,.aF]) fun b=>.op (.st 4 b a) fun _=>Lg 1 b fun a=>.op (.bE 1 1 [.int .i64 0] [(0,1,a)]) fun a=>.op (.app 1 8 (g WX 0) a) fun a=>.op (.jC Hl [b]) fun b=>Cl zm [g vU 1,b] fun b=>.op (.una .not b) fun b=>.ite b (.fin [.val (.bool false)]) (Bn .add (g WX 1) (.int .i64 1) fun b=>.leaf 0 [a,b])
def NT (x0:AV):Prog:=.op (.box x0) fun a=>.op (.fad 22 a) fun b=>Ld 4 b fun b=>.op (.fad 26 a) fun c=>.op (.ld1 c) fun d=>Cl ug [b] fun b=>.chk (.ld1 c) d (.op (.app 3 24 b d) fun b=>Ln 0 b fun c=>.loop [.aF,.int .i64 0] (fun a=>Bn .lss (g a 1) c fun c=>.ite c (Ix 3 b (g a 1) fun b=>Ld 3 b fun b=>.op (.alloc [.int .i64 0,.int .i64 0,.int .i64 0]) fun c=>.op (.st 3 c b) fun _=>Lg 0 c fun b=>.op (.bE 1 1 [.int .i64 0] [(0,1,b)]) fun b=>.op (.app 1 8 (g a 0) b) fun b=>Bn .add (g a 1) (.int .i64 1) fun a=>.leaf 0 [b,a]) (.leaf 2 [g a 0,g a 1])) fun c d=>aA c 1 (.leaf 1 d) (aA c 2 (Lg 20 a fun c=>Ln 0 c fun e=>.loop [g d 0,.int .i64 0] (fun a=>Bn .lss (g a 1) e fun b=>.ite b (Ix 3 c (g a 1) fun b=>Ld 3 b fun b=>.op (.alloc [.int .i64 0,.int .i64 0,.bool false]) fun c=>.op (.st 3 c b) fun _=>Lg 1 c fun b=>.op (.bE 1 1 [.int .i64 0] [(0,1,b)]) fun b=>.op (.app 1 8 (g a 0) b) fun b=>Bn .add (g a 1) (.int .i64 1) fun a=>.leaf 0 [b,a]) (.leaf 4 [g a 0,g a 1])) fun c d=>aA c 1 (.leaf 1 d) (aA c 4 (Lg 29 a fun c=>Ln 0 c fun e=>.loop [g d 0,b,.int .i64 0] (fun a=>Bn .lss (g a 2) e fun b=>.ite b (Ix 12 c (g a 2) fun b=>Ld 12 b fun b=>.op (.alloc gu) fun c=>.op (.st 12 c b) fun _=>.op (.fad 9 c) fun b=>aaK b a c) (.leaf 6 [g a 0,g a 1,g a 2])) fun b c=>aA b 1 (.leaf 1 c) (aA b 6 (Lg 14 a fun b=>Cl Ai [b] fun b=>Ln 0 b fun d=>.loop [g c 0,.int .i64 0] (fun a=>Bn .lss (g a 1) d fun d=>.ite d (Ix 4 b (g a 1) fun b=>aaJ b a c) (.leaf 8 [g a 0,g a 1])) fun b c=>aA b 1 (.leaf 1 c) (aA b 8 (.op (.jC Hg [a]) fun a=>Cl zq [g c 0,a] fun a=>.op (.una .not a) fun a=>.fin [.val a]) .bad)) .bad)) .bad)) .bad))
theorem ad6 (x0:AV):CC Tryz.prog AO [x0] (NT x0):=cc Tryz.func126 [1,3,4,19,20,21,32,33,34,45,46,47,75,76,77] (fun r=>if r=2 then[(0,[]),(1,[]),(3,[]),(4,[]),(2,[4]),(5,[]),(6,[])] else[])
end
def vZ (id stamp:Int) (t:Ab.Timer):Bool:=decide (t.id=stamp∧t.trace=id)
theorem ail {h:AH} {b:Nat} {t:Trail} {v:AV} (a:At h b 0 (t.cs v)):Looks Ab.Timer Tryz.prog h Hl [.ptr b 0] (vZ t.id t.stamp):=by
 rintro y cs F ⟨rfl,rfl⟩
 refine reader (aa2 _ _) (by simp only[old]) ?_
 unfold Mq
 (repeat' first|refine vs ?_|(refine br ?_ ?_<;>first|exact bx|intro _)|fail)
 all_goals(refine pb ?_;simp[vZ];omega)
theorem Zd {h:AH} {xs:List Ab.Timer} {x0:AV} {F:List Nat} {f:FuncId} {caps:List AV} {p:Ab.Timer→Bool} (r:au h x0 xs F) (hf:Looks Ab.Timer Tryz.prog h f caps p):
  aN Tryz.prog zm [x0,.fn f caps] h (.bool (bp (∃ x∈xs,p x=true))):=by
 refine reader (Zg _ _) (by simp only[old]) ?_
 unfold LJ
 (repeat' first|refine vs ?_|(refine br ?_ ?_<;>first|exact bx|intro _)|((with_reducible refine aB sQ ?_);refine aQ (LV ah hf) ?_)|fail)
 ·exact pt (lZ.1 (by assumption))
 ·exact pf fun k=>absurd (lZ.2 k) (by assumption)
theorem aik {h:AH} {b:Nat} {x:Wld} {v0 v1 v2 v3 v4 v5 v6 v7 v8 v9 v10:AV} {n:Int} (a:At h b 0 (x.cs v0 v1 v2 v3 v4 v5 v6 v7 v8 v9 v10)):aN Tryz.prog Hg [.int .i64 n,.ptr b 0] h (.bool (decide (n ≥ x.next))):=by
 refine reader (aa1 _ _) (by simp only[old]) ?_
 unfold Ml
 (repeat' first|refine vs ?_|(refine br ?_ ?_<;>first|exact bx|intro _)|fail)
 all_goals(refine pb ?_;simp;omega)
theorem ZK {h:AH} {xs:List Int} {x0:AV} {F:List Nat} {f:FuncId} {caps:List AV} {p:Int→Bool} (r:au h x0 xs F) (hf:∀ n,aN Tryz.prog f (.int .i64 n::caps) h (.bool (p n))):
  aN Tryz.prog zA [x0,.fn f caps] h (.int .i64 (idx p xs)):=by
 refine reader (ZN _ _) (by simp only[old]) ?_
 unfold LY
 have hsm:=r.small
 refine bQ r ?_
 refine aY xs.length (fun i vs h1=>vs=[.int .i64 (i:Int)]∧i≤xs.length∧h1=h∧∀ j y,j < i→xs[j]? =some y→p y=false) ⟨rfl,Nat.zero_le _,rfl,fun j y hj=>by omega⟩ ?_
 rintro i vs h1 _ ⟨rfl,hi,rfl,hn⟩
 simp only[g0]
 refine br (fun hlt=>?_) (fun hge=>?_)
 ·obtain⟨x,hx,-,htk⟩:=aR (show i < xs.length by omega)
  refine dH (bS r hx rfl ?_)
  rintro bb o _ Fi a ⟨rfl,rfl⟩ _
  refine qM a (Ext.refl _) (oJ (hf x) (vE ?_ ?_))
  ·intro hp
   exact dI (pi (by rw[rA hx hp hn]))
  ·intro hp
   (repeat' first|refine vs ?_|fail)
   refine⟨by omega,rfl,by omega,rfl,fun j y hj hy=>?_⟩
   by_cases e:j=i
   ·subst e;rw[hx] at hy;cases hy;exact hp
   ·exact hn j y (by omega) hy
 ·have e:i=xs.length:=by omega
  subst e
  (repeat' first|refine vs ?_|fail)
  exact pi (yE hn).symm
theorem Zn {h:AH} {xs:List Int} {x0:AV} {F:List Nat} {f:FuncId} {caps:List AV} {p:Int→Bool} (r:au h x0 xs F) (hf:∀ n,aN Tryz.prog f (.int .i64 n::caps) h (.bool (p n))):
  aN Tryz.prog zq [x0,.fn f caps] h (.bool (bp (∃ x∈xs,p x=true))):=by
 refine reader (Zr _ _) (by simp only[old]) ?_
 unfold LQ
 (repeat' first|refine vs ?_|(refine br ?_ ?_<;>first|exact bx|intro _)|((with_reducible refine aB zA ?_);refine aQ (ZK ah hf) ?_)|fail)
 ·exact pt (lZ.1 (by assumption))
 ·exact pf fun k=>absurd (lZ.2 k) (by assumption)
end Go.Proofs.YtekfdoknfcedpaaGreat
end
section
set_option linter.unusedSimpArgs false
set_option linter.unusedVariables false
set_option maxHeartbeats 8000000
namespace Go.Proofs.YtekfdoknfcedpaaGreat
open Go Go.Ab
def yS (t:Task):Ab.Timer:=⟨t.stamp,t.trace,0⟩
def judges (l:List Task):List Ab.Timer:=(l.filter fun t=>decide (t.op=2∧t.pc≠3)).map yS
theorem aky {l:List Task} {i:Nat} {t:Task} (htk:l.take (i+1)=l.take i++[t]) (h:t.op=2∧t.pc≠3):judges (l.take (i+1))=judges (l.take i)++[yS t]:=by
 rw[htk];unfold judges;rw[List.filter_append,List.map_append];congr 1;simp[h]
theorem akz {l:List Task} {i:Nat} {t:Task} (htk:l.take (i+1)=l.take i++[t]) (h: ¬ (t.op=2∧t.pc≠3)):judges (l.take (i+1))=judges (l.take i):=by
 rw[htk];unfold judges;rw[List.filter_append,List.map_append];simp[h]
theorem ajl (l:List Task) (i:Nat):(judges (l.take i)).length≤l.length:=by
 unfold judges
 have h1:=List.length_filter_le (fun t:Task=>decide (t.op=2∧t.pc≠3)) (l.take i)
 have h2:=List.length_take_le' i l
 rw[List.length_map];omega
theorem SY {x:Wld} {id stamp:Int}:(∃ y∈dJ x++judges x.tasks,vZ id stamp y=true)↔known x id stamp:=by
 constructor
 ·rintro⟨y,hy,hp⟩
  simp only[vZ,decide_eq_true_eq] at hp
  rcases List.mem_append.1 hy with hy|hy
  ·exact .inl ⟨y,hy,hp⟩
  ·unfold judges at hy
   obtain⟨t,ht,rfl⟩:=List.mem_map.1 hy
   obtain⟨hm,hq⟩:=List.mem_filter.1 ht
   simp only[decide_eq_true_eq] at hq
   exact .inr ⟨t,hm,hq.1,hq.2,hp.1,hp.2⟩
 ·rintro(⟨y,hy,hp⟩|⟨t,ht,h1,h2,h3,h4⟩)
  ·exact⟨y,List.mem_append_left _ hy,by simp[vZ,hp]⟩
  ·refine⟨yS t,List.mem_append_right _ ?_,by simp[vZ,yS,h3,h4]⟩
   unfold judges
   exact List.mem_map.2 ⟨t,List.mem_filter.2 ⟨ht,by simp[h1,h2]⟩,rfl⟩
theorem FE {α β:Type} (f:α→β) {l:List α} {i:Nat} {x:α} (htk:l.take (i+1)=l.take i++[x]):(l.take (i+1)).map f=(l.take i).map f++[f x]:=by rw[htk,List.map_append];rfl
theorem FH {α β:Type} (f:α→β) (l:List α) (i:Nat):((l.take i).map f).length≤l.length:=by rw[List.length_map];exact List.length_take_le' i l
def Eb (x:Wld):List Int:=(dJ x).map (·.id)++(x.cache.map (·.stamp)++(x.tasks.map (·.stamp)++(allT x.st).map (·.stamp)))
def Ug (x:Wld):Prop:=(∀ t∈allT x.st,known x t.id t.stamp)∧∀ n∈Eb x,n < x.next
theorem adn {h:AH} {x:Wld} {cs:List AV} {F:List Nat} (hs:Sz.sz x≤67108864) (r:Cel.rep h x cs F):
  aN Tryz.prog AO [.agg cs] h (.bool (bp (Ug x))):=by
 obtain⟨v0,v1,v2,v3,v4,v5,v6,v7,v8,v9,v10,F0,F1,F2,F3,F4,F5,F6,F7,F8,F9,F10,rfl,rfl,r0,r1,r2,r3,r4,r5,r6,r7,r8,r9,r10⟩:=r
 have hs:Sz.sz x.c+(x.st.length+szs x.st)+(x.cache.length+szs x.cache)+Sz.sz x.w+(x.due.length+szs x.due)+(x.queue.length+szs x.queue)+(x.out.length+szs x.out)+(x.tasks.length+szs x.tasks)+(x.aH.length+szs x.aH)≤67108864:=hs
 have hl2:=r2.small
 have hl9:=r9.small
 have htb:=JW x.w
 have hab:=vG x.st
 refine reader (ad6 _) (by simp only[old]) ?_
 unfold NT
 (repeat' first|refine vs ?_|fail)
 refine aT (Je (w:=x.w) aP ah ah ah) ?_
 rintro u h1 ⟨e1,G1,q1,o1⟩
 have n1:=e1.1
 simp only[aO] at n1 o1
 refine vs ?_
 refine nL (n:=h.n+1) (xs:=timers x.w) (ys:=x.due) (Fx:=G1) q1 (ah:au _ v6 x.due F6) o1 aP rfl (by omega) (by omega) ?_
 intro v h4 T kp0 kp q2 o2
 have e4:=kp0 _ e1 (by simp)
 have n4:=e4.1
 simp only[aO] at n4
 have hlen:(timers x.w++x.due).length=(timers x.w).length+x.due.length:=by simp
 clear kp0 kp e1 n1 q1 o1
 change au h4 v (dJ x) T at q2
 have hlen:(dJ x).length=(timers x.w).length+x.due.length:=hlen
 have hsm:=q2.small
 refine vs ?_
 refine aY (dJ x).length (fun i vs h5=>∃ u G,vs=[u,.int .i64 (i:Int)]∧i≤(dJ x).length∧Ext h4 h5∧au h5 u (((dJ x).take i).map (·.id)) G∧Own h4.n h5 G) ⟨_,_,rfl,Nat.zero_le _,Ext.refl _,au.aF,Own.nil⟩ ?_
 rintro i vs h5 _ ⟨u,G,rfl,hi,e5,ru,ou⟩
 have n5:=e5.1
 simp only[g0,g1]
 have hml:=FH (·.id) (dJ x) i
 refine br (fun hlt=>?_) (fun hge=>?_)
 ·obtain⟨t,ht,-,htk⟩:=aR (show i < (dJ x).length by omega)
  (repeat' first|refine vs ?_|((with_reducible refine aC ?_);((refine ix ?_);rintro _ _ _ _ _ ⟨rfl,rfl⟩ _))|fail)
  refine lq (n:=h4.n) (xs:=((dJ x).take i).map (·.id)) (a:=t.id) (G:=[]) ah ⟨rfl,rfl⟩ (by rw[List.append_nil];exact bJ) aP rfl (by omega) (by omega) ?_
  intro v' h' F' ek kp r' o' _
  (repeat' first|refine vs ?_|fail)
  exact⟨by omega,v',F',rfl,by omega,ek _ aG (Nat.le_refl _),by rw[FE _ htk];exact r',o'⟩
 have ei:i=(dJ x).length:=by omega
 subst ei
 rw[List.take_length] at ru
 clear hml hi hge
 (repeat' first|refine vs ?_|((with_reducible refine aJ ?_);simp only[g0,g1,g2]))
 refine aY x.cache.length (fun i vs h6=>∃ u G,vs=[u,.int .i64 (i:Int)]∧i≤x.cache.length∧Ext h4 h6∧au h6 u ((dJ x).map (·.id)++(x.cache.take i).map (·.stamp)) G∧Own h4.n h6 G) ⟨u,G,rfl,Nat.zero_le _,e5,by simpa using ru,ou⟩ ?_
 clear ru ou e5 n5
 rintro i vs h6 _ ⟨u,G,rfl,hi,e5,ru,ou⟩
 have n5:=e5.1
 simp only[g0,g1]
 have hml:=FH (·.stamp) x.cache i
 have hll:((dJ x).map (·.id)++(x.cache.take i).map (·.stamp)).length=(dJ x).length+((x.cache.take i).map (·.stamp)).length:=by simp
 refine br (fun hlt=>?_) (fun hge=>?_)
 ·obtain⟨t,ht,-,htk⟩:=aR (show i < x.cache.length by omega)
  (repeat' first|refine vs ?_|((with_reducible refine aC ?_);((refine ix ?_);rintro _ _ _ _ _ ⟨rfl,rfl⟩ _))|fail)
  refine lq (n:=h4.n) (xs:=(dJ x).map (·.id)++(x.cache.take i).map (·.stamp)) (a:=t.stamp) (G:=[]) ah ⟨rfl,rfl⟩ (by rw[List.append_nil];exact bJ) aP rfl (by omega) (by omega) ?_
  intro v' h' F' ek kp r' o' _
  (repeat' first|refine vs ?_|fail)
  exact⟨by omega,v',F',rfl,by omega,ek _ aG (Nat.le_refl _),by rw[FE _ htk,←List.append_assoc];exact r',o'⟩
 have ei:i=x.cache.length:=by omega
 subst ei
 rw[List.take_length] at ru
 clear hml hll hi hge
 (repeat' first|refine vs ?_|((with_reducible refine aJ ?_);simp only[g0,g1,g2]))
 have hGT:∀ c∈G,c ∉ T:=TV ou q2 (Nat.le_refl _)
 refine aY x.tasks.length (fun i vs h7=>∃ u G w T,vs=[u,w,.int .i64 (i:Int)]∧i≤x.tasks.length∧Ext (h.push ⟨(x.cs v0 v1 v2 v3 v4 v5 v6 v7 v8 v9 v10),0,0⟩) h7∧au h7 u ((dJ x).map (·.id)++(x.cache.map (·.stamp)++(x.tasks.take i).map (·.stamp))) G∧Own (h.n+1) h7 G∧au h7 w (dJ x++judges (x.tasks.take i)) T∧Own (h.n+1) h7 T∧∀ c∈G,c ∉ T) ⟨u,G,v,T,rfl,Nat.zero_le _,aG,by simpa using ru,ou.mono (by omega) fun _ _=>rfl,by simpa[judges] using(ah:au h6 v (dJ x) T),bJ,hGT⟩ ?_
 clear ru ou e5 n5 hGT q2 o2
 rintro i vs h7 _ ⟨u,G,w,T,rfl,hi,e7,ru,ou,rw',ow,hGT⟩
 have n7:=e7.1
 simp only[aO] at n7
 simp only[g0,g1,g2]
 have hml:=FH (·.stamp) x.tasks i
 have hjl:=ajl x.tasks i
 have hll:((dJ x).map (·.id)++(x.cache.map (·.stamp)++(x.tasks.take i).map (·.stamp))).length=(dJ x).length+(x.cache.length+((x.tasks.take i).map (·.stamp)).length):=by simp
 have hlw:(dJ x++judges (x.tasks.take i)).length=(dJ x).length+(judges (x.tasks.take i)).length:=by simp
 refine br (fun hlt=>?_) (fun hge=>?_)
 ·obtain⟨t,ht,-,htk⟩:=aR (show i < x.tasks.length by omega)
  refine vs ?_
  refine bS r9 ht rfl ?_
  rintro b o _ Fi a ⟨va,vb,Fa,Fb,rfl,rfl,ra,rb⟩ _
  (repeat' first|refine vs ?_|((with_reducible refine aJ ?_);simp only[g0,g1,g2]))
  refine lq (n:=h.n+1) (xs:=(dJ x).map (·.id)++(x.cache.map (·.stamp)++(x.tasks.take i).map (·.stamp))) (a:=t.stamp) (G:=[]) ah ⟨rfl,rfl⟩ (by rw[List.append_nil];exact bJ) aP rfl (by omega) (by omega) ?_
  intro v' h8 F' ek kp r' o' hF
  have e8:=ek _ (aG:Ext (h.push ⟨(x.cs v0 v1 v2 v3 v4 v5 v6 v7 v8 v9 v10),0,0⟩) _) (by simp)
  have n8:=kp.1
  simp only[aO] at n8
  have bt:Bk h8 h7.n [.int .i64 t.op,.int .i64 t.pc,.int .i64 t.s.trace,.int .i64 t.s.id,.int .i64 t.s.start,.int .i64 t.s.fin,.bool t.s.err,va,.int .i64 t.trace,.int .i64 t.stamp,vb,.int .i64 t.h] 0:=bR kp bA (vB ru (Nat.le_refl _))
  have w8:au h8 w (dJ x++judges (x.tasks.take i)) T:=aI kp ah fun c hc hg=>hGT c hg hc
  have ow8:Own (h.n+1) h8 T:=(bC kp bU fun c hc hg=>hGT c hg hc).1
  have hd8:∀ c∈F',c ∉ T:=fun c hc hT=>by
   rcases hF c hc with h1|h1|h1
   ·exact hGT c h1 hT
   ·cases h1
   ·have:=rw'.lt c hT
    simp only[aO] at h1;omega
  rw[List.append_assoc,List.append_assoc,←FE (fun t:Task=>t.stamp) htk] at r'
  clear ek kp hF ru ou rw' ow hGT
  (repeat' first|refine vs ?_|(refine br ?_ ?_<;>first|exact bx|intro _)|fail)
  all_goals first
   |exact⟨by omega,v',F',w,T,rfl,by omega,aG,r',o',by rw[akz htk (by omega)];exact w8,ow8,hd8⟩
   |skip
  refine lq (n:=h.n+1) (xs:=dJ x++judges (x.tasks.take i)) (a:=yS t) (G:=[]) ah ⟨rfl,rfl⟩ (by rw[List.append_nil];exact bJ) aP rfl (by omega) (by omega) ?_
  intro w' h9 T' ek kp rT oT hT
  have e9:=ek _ (aG:Ext (h.push ⟨(x.cs v0 v1 v2 v3 v4 v5 v6 v7 v8 v9 v10),0,0⟩) _) (by simp)
  have n9:=kp.1
  have u9:au h9 v' _ F':=aI kp ah hd8
  have ou9:Own (h.n+1) h9 F':=(bC kp bU hd8).1
  have hd9:∀ c∈F',c ∉ T':=fun c hc hTc=>by
   rcases hT c hTc with h1|h1|h1
   ·exact hd8 c hc h1
   ·cases h1
   ·have:=r'.lt c hc
    (try simp only[aO] at h1);omega
  rw[List.append_assoc,←aky htk (by omega)] at rT
  (repeat' first|refine vs ?_|fail)
  exact⟨by omega,v',F',w',T',rfl,by omega,e9,u9,ou9,rT,oT,hd9⟩
 have ei:i=x.tasks.length:=by omega
 subst ei
 rw[List.take_length] at ru rw'
 clear hml hjl hll hlw hi hge
 (repeat' first|refine vs ?_|((with_reducible refine aJ ?_);simp only[g0,g1,g2]))
 refine aT (MF (l:=x.st) aP ah) ?_
 rintro vL h8 ⟨e8,FL,qL,oL⟩
 have n8:=e8.1
 have hGL:∀ c∈G,c ∉ FL:=UR ru oL (Nat.le_refl _)
 refine bQ qL ?_
 have hsL:=qL.small
 refine aY (allT x.st).length (fun i vs h9=>∃ u G,vs=[u,.int .i64 (i:Int)]∧i≤(allT x.st).length∧Ext (h.push ⟨(x.cs v0 v1 v2 v3 v4 v5 v6 v7 v8 v9 v10),0,0⟩) h9∧au h9 u ((dJ x).map (·.id)++(x.cache.map (·.stamp)++(x.tasks.map (·.stamp)++((allT x.st).take i).map (·.stamp)))) G∧Own (h.n+1) h9 G∧au h9 w (dJ x++judges x.tasks) T∧au h9 vL (allT x.st) FL∧(∀ c∈G,c ∉ T)∧(∀ c∈G,c ∉ FL)∧bW (allT x.st) (fun _ t=>known x t.id t.stamp) i) ⟨u,G,rfl,Nat.zero_le _,aG,by simpa using(ah:au h8 u _ G),bJ,ah,qL,hGT,hGL,up0⟩ ?_
 clear e8 n8 oL hGL qL ru ou rw' ow hGT e7 n7
 rintro i vs h9 _ ⟨u,G,rfl,hi,e9,ru,ou,rw',rL,hGT,hGL,hu⟩
 have n9:=e9.1
 simp only[aO] at n9
 simp only[g0,g1]
 have hml:=FH (·.stamp) (allT x.st) i
 have hll:((dJ x).map (·.id)++(x.cache.map (·.stamp)++(x.tasks.map (·.stamp)++((allT x.st).take i).map (·.stamp)))).length=(dJ x).length+(x.cache.length+(x.tasks.length+(((allT x.st).take i).map (·.stamp)).length)):=by simp
 refine br (fun hlt=>?_) (fun hge=>?_)
 ·obtain⟨t,ht,-,htk⟩:=aR (show i < (allT x.st).length by omega)
  refine vs ?_
  refine bS rL ht rfl ?_
  rintro b o _ Fi a ⟨va,rfl,ra⟩ _
  (repeat' first|refine vs ?_|((with_reducible refine aJ ?_);simp only[g0,g1,g2]))
  refine lq (n:=h.n+1) (xs:=(dJ x).map (·.id)++(x.cache.map (·.stamp)++(x.tasks.map (·.stamp)++((allT x.st).take i).map (·.stamp)))) (a:=t.stamp) (G:=[]) ah ⟨rfl,rfl⟩ (by rw[List.append_nil];exact bJ) aP rfl (by omega) (by omega) ?_
  intro v' h8 F' ek kp r' o' hF
  have e8:=ek _ (aG:Ext (h.push ⟨(x.cs v0 v1 v2 v3 v4 v5 v6 v7 v8 v9 v10),0,0⟩) _) (by simp)
  have n8:=kp.1
  simp only[aO] at n8
  have bt:Bk h8 h9.n [.int .i64 t.id,.int .i64 t.stamp,.int .i64 t.first,va] 0:=bR kp bA (vB ru (Nat.le_refl _))
  have w8:au h8 w (dJ x++judges x.tasks) T:=aI kp ah fun c hc hg=>hGT c hg hc
  have L8:au h8 vL (allT x.st) FL:=aI kp ah fun c hc hg=>hGL c hg hc
  have hdT:∀ c∈F',c ∉ T:=fun c hc hT=>by
   rcases hF c hc with h1|h1|h1
   ·exact hGT c h1 hT
   ·cases h1
   ·have:=rw'.lt c hT
    simp only[aO] at h1;omega
  have hdL:∀ c∈F',c ∉ FL:=fun c hc hT=>by
   rcases hF c hc with h1|h1|h1
   ·exact hGL c h1 hT
   ·cases h1
   ·have:=rL.lt c hT
    simp only[aO] at h1;omega
  rw[List.append_assoc,List.append_assoc,List.append_assoc,←FE (fun t:Trail=>t.stamp) htk] at r'
  clear ek kp hF ru ou rw' rL hGT hGL
  (repeat' first|refine vs ?_|((with_reducible refine aB zm ?_);(refine aX (Zd ah (ail (t:=t) (v:=va) (rU bt))) ?_ ?_<;>intro hn))|fail)
  all_goals first
   |exact pf fun k=>absurd (SY.2 (k.1 t (List.mem_of_getElem? ht))) (by assumption)
   |exact⟨by omega,v',F',rfl,by omega,aG,r',o',w8,L8,hdT,hdL,upS hu ht (SY.1 (by assumption))⟩
 have ei:i=(allT x.st).length:=by omega
 subst ei
 rw[List.take_length] at ru
 have hu:=dX hu
 change au h9 u (Eb x) G at ru
 have bw:Bk h9 h.n (x.cs v0 v1 v2 v3 v4 v5 v6 v7 v8 v9 v10) 0:=bA
 (repeat' first|refine vs ?_|((with_reducible refine aB zq ?_);(refine aX (Zn ru (fun n=>aik (x:=x) (n:=n) (rU bw))) ?_ ?_<;>intro hn))|fail)
 ·refine pf fun k=>?_
  rename_i hn
  obtain⟨n,hn,hp⟩:=hn
  simp only[decide_eq_true_eq] at hp
  have:=k.2 n hn
  omega
 ·refine pt ⟨hu,fun n hn2=>?_⟩
  rename_i hn
  by_cases hlt:n < x.next
  ·exact hlt
  ·exact absurd ⟨n,hn2,by simp only[decide_eq_true_eq];omega⟩ hn
end Go.Proofs.YtekfdoknfcedpaaGreat
end
