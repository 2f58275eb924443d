import Derived.Test.YtcgjihfngdhjjaaGreatDKW1
import Derived.Test.YtcgjihfngdhjjaaGreatDW16
import Derived.Test.YtcgjihfngdhjjaaGreatDKW2
import Derived.Test.YtcgjihfngdhjjaaGreatDW9
set_option linter.unusedSimpArgs false
set_option linter.unusedVariables false
section
set_option maxHeartbeats 8000000
namespace Go.Proofs.YtcgjihfngdhjjaaGreat
open Go Go.Ab
section
def Ou (x0 x1:AV):Prog:=.op (.box x0) fun a=>Lg 29 a fun b=>Ix 12 b x1 fun b=>Ld 12 b fun b=>.op (.alloc ji) fun c=>.op (.st 12 c b) fun _=>Lg 11 c fun b=>Lg 30 a fun d=>Ln 0 d fun d=>Bn .geq b d fun b=>.ite b (.fin [.val (.bool false)]) (Lg 30 a fun a=>Lg 11 c fun b=>Ix 20 a b fun a=>Ld 20 a fun a=>.op (.alloc jR) fun b=>.op (.st 20 b a) fun _=>Lg 0 b fun a=>Bn .eql a (.int .i64 1) fun a=>.gop a true (.fad 2 b) fun d=>.gop a true (.ldn 6 d) fun d=>.gop a true (.fad 2 c) fun e=>.gop a true (.ldn 6 e) fun e=>.gop a true (.call qA [d,e]) fun d=>Pk a d (.bool false) fun a=>Lg 0 c fun d=>Bn .eql d (.int .i64 2) fun d=>.scope (.ite d (Lg 0 b fun a=>Bn .eql a (.int .i64 2) fun a=>Gf a true 8 b fun d=>Gf a true 8 c fun e=>.gop a true (.bin 0 .eql d e) fun d=>Pk a d (.bool false) fun a=>Gf a true 9 b fun b=>Gf a true 9 c fun c=>.gop a true (.bin 0 .eql b c) fun b=>Pk a b (.bool false) fun a=>.leaf 0 [a]) (.leaf 0 [a])) (fun a=>.gop (g a 0) true (.fad 1 b) fun d=>.gop (g a 0) true (.ld1 d) fun d=>.gop (g a 0) true (.mv x1) fun e=>.gop (g a 0) true (.bin 0 .eql d e) fun d=>Pk (g a 0) d (.bool false) fun a=>Gf a true 19 b fun d=>.gop a true (.bin 0 .eql d (.int .i64 (-1))) fun d=>Pk a d (.bool false) fun a=>Gf a true 18 b fun b=>.gop a true (.bin 0 .neq b (.int .i64 (-1))) fun b=>Gf a true 0 c fun d=>.gop a true (.bin 0 .eql d (.int .i64 2)) fun d=>.gop a true (.mv d) fun d=>Gf d true 1 c fun c=>.gop d true (.bin 0 .eql c (.int .i64 3)) fun c=>.gop a true (.pick d c (.bool false)) fun c=>.gop a true (.bin 2 .eql b c) fun b=>Pk a b (.bool false) fun a=>.fin [.val a]) fun a b=>aC a 1 (.leaf 1 b) .bad)
theorem aay (x0 x1:AV):CC Tryz.prog Eh [x0,x1] (Ou x0 x1):=cc Tryz.func108 [1,5,6,7] (fun _=>[])
end
def nk (k:Nat) (t:Task) (d:aW):Prop:=d.task=k∧d.res= -1∧(d.lin≠-1↔(t.op=2∧t.pc=3))∧((t.op=1∧d.op=1∧d.s=t.s)∨(t.op=2∧d.op=2∧d.trace=t.trace∧d.stamp=t.stamp))
def mO (x:Wld) (k:Nat) (t:Task):Prop:=match x.aF[t.h.toNat]? with
 |none=>False
 |some d=>nk k t d
theorem Wh {x:Wld} {k:Nat} {t:Task} {d:aW} (h:x.aF[t.h.toNat]? =some d):mO x k t↔nk k t d:=by unfold mO;rw[h]
theorem aiK {x:Wld} {k:Nat} {t:Task} (h:x.aF.length≤t.h.toNat): ¬ mO x k t:=by unfold mO;rw[List.getElem?_eq_none h];exact id
theorem aag {h:AH} {x:Wld} {cs:List AV} {F:List Nat} {k:Nat} {t:Task} (ht:x.tasks[k]? =some t) (h0:0≤t.h) (ho:t.op=1∨t.op=2) (r:Cel.rep h x cs F):
  aP Tryz.prog Eh [.agg cs,.int .i64 (k:Int)] h (.bool (bp (mO x k t))):=by
 obtain⟨v0,v1,v2,v3,v4,v5,v6,v7,v8,v9,v10,F0,F1,F2,F3,F4,F5,F6,F7,F8,F9,F10,rfl,rfl,r0,r1,r2,r3,r4,r5,r6,r7,r8,r9,r10⟩:=r
 have hl9:=r9.small
 have akZ:=r10.small
 refine reader (aay _ _) (by simp only[old]) ?_
 unfold Ou
 by_cases hlt:t.h.toNat < x.aF.length
 ·obtain⟨d,hd,-,-⟩:=aU hlt
  (repeat' first|refine vs ?_|(refine br ?_ ?_<;>first|exact bx|intro _)|((with_reducible refine aG qA ?_);(refine bC (Eu (a:=d.s) (b:=t.s) aB aB) ?_ ?_<;>intro hn))|((with_reducible refine bB ?_);((first|refine ix ?_|refine ixi ?_);first|rintro _ _ _ _ _ ⟨_,rfl,_⟩ _|rintro _ _ _ _ _ ⟨_,_,_,_,rfl,rfl,_,_⟩ _))|refine gS ?_|fail)
  all_goals first
   |(refine pt ((Wh hd).2 ?_);unfold nk;first|exact⟨by omega,by omega,by omega,.inl ⟨by omega,by omega,by assumption⟩⟩|exact⟨by omega,by omega,by omega,.inr ⟨by omega,by omega,by omega,by omega⟩⟩)
   |(refine pf fun k=>?_;obtain⟨a1,a2,a3,⟨b1,b2,b3⟩|⟨b1,b2,b3,b4⟩⟩:=(Wh hd).1 k<;>first|contradiction|omega)
 ·(repeat' first|refine vs ?_|(refine br ?_ ?_<;>first|exact bo|intro _)|((with_reducible refine bB ?_);((refine ix ?_);rintro _ _ _ _ _ ⟨_,_,_,_,rfl,rfl,_,_⟩ _))|fail)
  exact pf (aiK (by omega))
end Go.Proofs.YtcgjihfngdhjjaaGreat
end
section
set_option maxHeartbeats 8000000
namespace Go.Proofs.YtcgjihfngdhjjaaGreat
open Go Go.Ab
section
def QB (x0:AV):Prog:=.op (.box x0) fun a=>Lg 29 a fun b=>Ln 0 b fun b=>Bn .neq b (.int .i64 5) fun b=>.ite b (.fin [.val (.bool false)]) (Lg 14 a fun b=>Ln 0 b fun b=>.op (.qp 1 8 [.int .i64 0] b b) fun b=>Ln 0 b fun c=>.loop [.int .i64 0] (fun a=>Bn .lss (g a 0) c fun c=>.ite c (Ix 1 b (g a 0) fun b=>.op (.st 1 b (.int .i64 (-1))) fun _=>Bn .add (g a 0) (.int .i64 1) fun a=>.leaf 0 [a]) (.leaf 2 [g a 0])) fun c d=>aC c 1 (.leaf 1 d) (aC c 2 (Lg 29 a fun c=>Ln 0 c fun d=>.loop [.int .i64 (-1),.tup [],.tup [],.int .i64 0] (fun e=>Bn .lss (g e 3) d fun d=>.ite d (Ix 12 c (g e 3) fun c=>Ld 12 c fun c=>.op (.alloc ji) fun d=>.op (.st 12 d c) fun _=>Ld 12 d fun c=>Cl FE [c,g e 3] fun c=>.op (.una .not c) fun c=>Gf c false 0 d fun f=>.gop c false (.bin 0 .neq f (.int .i64 0)) fun f=>.gop c false (.mv f) fun f=>.gop f true (.ldn 32 a) fun i=>.gop f true (.mv (g e 3)) fun j=>.gop f true (.call Eh [i,j]) fun i=>.gop f true (.una .not i) fun i=>.gop c false (.pick f i (.bool false)) fun f=>Pk c (.bool true) f fun c=>.ite c (.fin [.val (.bool false)]) (Ld 12 d fun c=>Lg 14 a fun a=>Ln 0 a fun a=>Cl qz [c,a] fun a=>Bn .geq a (.int .i64 0) fun c=>.scope (.ite c (Ix 1 b a fun c=>.op (.ld1 c) fun c=>.op (.bin 0 .neq c (.int .i64 (-1))) fun c=>.ite c (.fin [.val (.bool false)]) (Ix 1 b a fun a=>.op (.st 1 a (g e 3)) fun _=>.leaf 0 [])) (.leaf 0 [])) (fun _=>Ld 12 d fun a=>Cl kU [a] fun a=>.scope (.ite a (.op (.bin 0 .neq (g e 0) (.int .i64 (-1))) fun a=>.ite a (.fin [.val (.bool false)]) (.leaf 0 [g e 3])) (.leaf 0 [g e 0])) (fun a=>Bn .add (g e 3) (.int .i64 1) fun b=>.leaf 0 [g a 0,g e 3,d,b]) fun a b=>aC a 1 (.leaf 1 b) .bad) fun a b=>aC a 1 (.leaf 1 b) .bad)) (.leaf 4 [g e 0,g e 1,g e 2,g e 3])) fun c d=>aC c 1 (.leaf 1 d) (aC c 4 (Lg 14 a fun c=>Ln 0 c fun e=>.loop [.int .i64 0] (fun a=>Bn .lss (g a 0) e fun d=>.ite d (Ix 2 c (g a 0) fun c=>Ld 2 c fun c=>.op (.alloc [.int .i64 0,.aA]) fun d=>.op (.st 2 d c) fun _=>Lg 0 d fun c=>Ix 1 b (g a 0) fun b=>.op (.ld1 b) fun b=>Bn .neq c b fun b=>.ite b (.fin [.val (.bool false)]) (Bn .add (g a 0) (.int .i64 1) fun a=>.leaf 0 [a])) (.leaf 6 [g a 0])) fun b c=>aC b 1 (.leaf 1 c) (aC b 6 (Lg 15 a fun a=>Bn .eql a (g d 0) fun a=>.fin [.val a]) .bad)) .bad)) .bad))
theorem acZ (x0:AV):CC Tryz.prog EU [x0] (QB x0):=cc Tryz.func47 [1,3,5,6,7,20,21,29,30,31,74,75,76] (fun r=>if r=28 then[(0,[]),(1,[]),(2,[]),(3,[]),(4,[]),(5,[]),(6,[])] else[])
end
def kR (n:Nat) (hs:List Int) (k:Nat) (t:Task):Option (List Int):=if 0≤bJ t n then(if hs[(bJ t n).toNat]? =some (-1) then some (hs.set (bJ t n).toNat (k:Int)) else none) else some hs
def kS (r:Int) (k:Nat) (t:Task):Option Int:=if t.op=2∧t.pc=2 then(if r= -1 then some (k:Int) else none) else some r
def zu (n:Nat) (s:List Int × Int) (k:Nat) (t:Task):Option (List Int × Int):=match kR n s.1 k t,kS s.2 k t with
 |some a,some b=>some (a,b)
 |_,_=>none
def dB (n:Nat) (l:List Task):Nat→Option (List Int × Int)
 |0=>some (List.replicate n (-1),-1)
 |k+1=>match dB n l k,l[k]? with
  |some s,some t=>zu n s k t
  |_,_=>none
theorem Ch {n k:Nat} {l:List Task} {hs hs':List Int} {r r':Int} {t:Task} (h:dB n l k=some (hs,r)) (ht:l[k]? =some t) (a:kR n hs k t=some hs') (b:kS r k t=some r'):dB n l (k+1)=some (hs',r'):=by
 simp[dB,h,ht,zu,a,b]
theorem ahj {n k:Nat} {l:List Task} {hs:List Int} {r:Int} {t:Task} (h:dB n l k=some (hs,r)) (ht:l[k]? =some t) (a:kR n hs k t=none):dB n l (k+1)=none:=by
 simp[dB,h,ht,zu,a]
theorem U4 {n k:Nat} {l:List Task} {hs:List Int} {r:Int} {t:Task} (h:dB n l k=some (hs,r)) (ht:l[k]? =some t) (b:kS r k t=none):dB n l (k+1)=none:=by
 simp only[dB,h,ht,zu,b]
 cases kR n hs k t<;>rfl
theorem Bv {n k:Nat} {l:List Task} (h:dB n l k=none):∀ {m:Nat},k≤m→dB n l m=none
 |0,hm=>by have:k=0:=(by omega);subst this;exact h
 |m+1,hm=>by
  by_cases e:k=m+1
  ·subst e;exact h
  ·have:=Bv h (m:=m) (by omega)
   simp[dB,this]
theorem Vv {n k:Nat} {hs:List Int} {t:Task} (h: ¬ bJ t n ≥ 0):kR n hs k t=some hs:=by unfold kR;rw[if_neg (by omega)]
theorem Vu {n k:Nat} {hs:List Int} {t:Task} {y:Int} (h:bJ t n ≥ 0) (hy:hs[(bJ t n).toNat]? =some y) (e:y= -1):kR n hs k t=some (hs.set (bJ t n).toNat (k:Int)):=by
 subst e;unfold kR;rw[if_pos (by omega),if_pos hy]
theorem ahL {n k:Nat} {hs:List Int} {t:Task} {y:Int} (h:bJ t n ≥ 0) (hy:hs[(bJ t n).toNat]? =some y) (e: ¬ y= -1):kR n hs k t=none:=by
 unfold kR;rw[if_pos (by omega),if_neg (by rw[hy];simpa using e)]
theorem LY {r:Int} {k:Nat} {t:Task} (h: ¬ (t.op=2∧t.pc=2)):kS r k t=some r:=by unfold kS;rw[if_neg h]
theorem LX {r:Int} {k:Nat} {t:Task} (h:t.op=2∧t.pc=2) (e:r= -1):kS r k t=some (k:Int):=by unfold kS;rw[if_pos h,if_pos e]
theorem Vw {r:Int} {k:Nat} {t:Task} (h:t.op=2∧t.pc=2) (e: ¬ r= -1):kS r k t=none:=by unfold kS;rw[if_pos h,if_neg e]
theorem Mf (t:Task) (n:Nat): -1≤bJ t n∧(0≤bJ t n→bJ t n < n):=by
 unfold bJ
 by_cases hn:(n:Int) < 1
 ·rw[if_pos hn];omega
 ·rw[if_neg hn]
  have h1:=jg (t:=t.s.trace) (n:=n) (by omega)
  have h2:=jg (t:=t.trace) (n:=n) (by omega)
  split
  ·omega
  ·split<;>omega
def lq (x:Wld) (k:Nat) (t:Task):Prop:=vv t k∧(t.op≠0→mO x k t)
def Hf (x:Wld):Prop:=∃ hs r,dB x.st.length x.tasks x.tasks.length=some (hs,r)∧(∀ (i:Nat) (s:aR),x.st[i]? =some s→hs[i]? =some s.held)∧x.bg=r
def WK (x:Wld):Prop:=(x.tasks.length:Int)=5∧(∀ (k:Nat) (t:Task),x.tasks[k]? =some t→lq x k t)∧Hf x
def aja (x:Wld):Prop:=(∀ (k:Nat) (t:Task),x.tasks[k]? =some t→lq x k t∧t.stamp < x.next)∧Hf x
theorem agT {t:Task} {k:Int} (h:vv t k):0≤t.h:=h.1
theorem Ug {t:Task} {k:Int} (h:vv t k) (h0: ¬ t.op=0):t.op=1∨t.op=2:=by
 obtain⟨-,-,-,h|h|h⟩:=h
 ·exact absurd (by rw[h];rfl) h0
 ·exact .inl h.1
 ·exact .inr h.1
section
variable{P:Program} {h:AH} {Q:Nat→List AV→AH→Prop} {k:AV→Prog}
theorem aiT {z y:Int} {v:AV} {xs:List Int} {F:List Nat} (r:ah h v xs F) (hz:0≤z) (hy:xs[z.toNat]? =some y) (hk:(k (.int .i64 y)).awp P h Q):(Prog.op (.idx 1 v (.int .i64 z)) fun a=>.op (.ld1 a) k).awp P h Q:=by
 have e1:z=((z.toNat:Nat):Int):=by omega
 rw[e1]
 refine dw r hy rfl ?_
 rintro b o _ Fi a ⟨rfl,rfl⟩ _
 exact Ls a (Ext.refl _) hk
theorem UM {h:AH} {y:Int}:∀ n,bR h (List.replicate n y) (List.replicate n ([.int .i64 y]:List AV)).flatten []
 |0=>⟨rfl,rfl⟩
 |n+1=>⟨[.int .i64 y],_,[],[],by simp[List.replicate_succ],rfl,⟨rfl,rfl⟩,UM n⟩
end
theorem ach {h:AH} {x:Wld} {cs:List AV} {F:List Nat} (ok:Cel.ok x) (hs:Sz.sz x≤67108864) (r:Cel.rep h x cs F):
  aP Tryz.prog EU [.agg cs] h (.bool (bp (WK x))):=by
 obtain⟨v0,v1,v2,v3,v4,v5,v6,v7,v8,v9,v10,F0,F1,F2,F3,F4,F5,F6,F7,F8,F9,F10,rfl,rfl,r0,r1,r2,r3,r4,r5,r6,r7,r8,r9,r10⟩:=r
 obtain⟨Yt,aii,XE,afe,akJ,ahg,aif,akH,ajp,UZ,WW,UY,ahf,aij⟩:=ok
 have hs:Sz.sz x.c+(x.st.length+szs x.st)+(x.cache.length+szs x.cache)+Sz.sz x.w+(x.due.length+szs x.due)+(x.queue.length+szs x.queue)+(x.out.length+szs x.out)+(x.tasks.length+szs x.tasks)+(x.aF.length+szs x.aF)≤67108864:=hs
 have hl1:=r1.small
 have hl9:=r9.small
 refine reader (acZ _) (by simp only[old]) ?_
 unfold QB
 (repeat' first|refine vs ?_|(refine br ?_ ?_<;>first|exact bx|intro _)|fail)
 ·exact pf fun k=>by have:=k.1;omega
 refine aiR (by omega) ?_
 have hlr:(List.replicate x.st.length (0:Int)).length=x.st.length:=by simp
 have rN:ah ((h.push ⟨(x.cs v0 v1 v2 v3 v4 v5 v6 v7 v8 v9 v10),0,0⟩).push ⟨(List.replicate x.st.length ([.int .i64 0]:List AV)).flatten,1,0⟩) (.sl (h.n+1) 0 x.st.length) (List.replicate x.st.length (0:Int)) [h.n+1]:=kX (h:=h.push ⟨(x.cs v0 v1 v2 v3 v4 v5 v6 v7 v8 v9 v10),0,0⟩) (n:=x.st.length) (xs:=List.replicate x.st.length (0:Int)) (by simp) (by omega) (UM _)
 have oN:Own (h.n+1) ((h.push ⟨(x.cs v0 v1 v2 v3 v4 v5 v6 v7 v8 v9 v10),0,0⟩).push ⟨(List.replicate x.st.length ([.int .i64 0]:List AV)).flatten,1,0⟩) [h.n+1]:=oD (by simp) rfl (by simp) Own.nil
 (repeat' first|refine vs ?_|fail)
 refine aX x.st.length (fun i vs h1=>∃ G,vs=[.int .i64 (i:Int)]∧i≤x.st.length∧Ext (h.push ⟨(x.cs v0 v1 v2 v3 v4 v5 v6 v7 v8 v9 v10),0,0⟩) h1∧h.n+2≤h1.n∧ah h1 (.sl (h.n+1) 0 x.st.length) (List.replicate i (-1:Int)++List.replicate (x.st.length - i) 0) G∧Own (h.n+1) h1 G) ⟨_,rfl,Nat.zero_le _,aI,by simp,by simpa using rN,oN⟩ ?_
 rintro i vs h1 _ ⟨G,rfl,hi,e1,hn1,rG,oG⟩
 simp only[g0]
 refine br (fun hlt=>?_) (fun hge=>?_)
 ·refine dL (Wn rG oG (by omega) (by simp;omega) ?_)
  intro h2 ek2 kp2 hn2 rG2 oG2
  (repeat' first|refine vs ?_|fail)
  refine⟨by omega,G,rfl,by omega,ek2 _ e1 (by simp),by omega,?_,oG2⟩
  have:(List.replicate i (-1:Int)++List.replicate (x.st.length - i) 0).set ((i:Int)).toNat (-1)=List.replicate (i+1) (-1:Int)++List.replicate (x.st.length - (i+1)) 0:=by
   have e:x.st.length - i=(x.st.length - (i+1))+1:=by omega
   rw[e,List.replicate_succ,List.set_append_right _ _ (by simp),List.replicate_succ' (n:=i)]
   simp
  rw[←this];exact rG2
 have ei:i=x.st.length:=by omega
 subst ei
 rw[show List.replicate x.st.length (-1:Int)++List.replicate (x.st.length - x.st.length) 0=List.replicate x.st.length (-1:Int) by simp] at rG
 (repeat' first|refine vs ?_|fail)
 have b1:Bk h1 h.n (x.cs v0 v1 v2 v3 v4 v5 v6 v7 v8 v9 v10) 0:=fq e1 gF
 refine aX x.tasks.length (fun i vs h2=>∃ y1 y2 hs r G,vs=[.int .i64 r,y1,y2,.int .i64 (i:Int)]∧i≤x.tasks.length∧Ext (h.push ⟨(x.cs v0 v1 v2 v3 v4 v5 v6 v7 v8 v9 v10),0,0⟩) h2∧h.n+2≤h2.n∧hs.length=x.st.length∧dB x.st.length x.tasks i=some (hs,r)∧ah h2 (.sl (h.n+1) 0 x.st.length) hs G∧Own (h.n+1) h2 G∧eZ x.tasks (lq x) i) ⟨_,_,_,_,G,rfl,Nat.zero_le _,aI,hn1,by simp,rfl,rG,oG,up0⟩ ?_
 clear hi hge e1 hn1 rG oG b1 rN oN
 rintro i vs h2 _ ⟨y1,y2,hs',r',G',rfl,hi,e2,hn2,hlen,hlk,rG',oG',hu⟩
 simp only[g0,g1,g2,g3]
 refine br (fun hlt=>?_) (fun hge=>?_)
 ·obtain⟨t,ht,-,-⟩:=aU (show i < x.tasks.length by omega)
  have hm:=List.mem_of_getElem? ht
  have hsz:=dh hm
  have okt:=UY t hm
  have hbz:=Mf t x.st.length
  refine vs ?_
  refine dw r9 ht rfl ?_
  rintro b o _ Fi a ⟨va,vb,Fa,Fb,rfl,rfl,ra,rb⟩ _
  (repeat' first|refine vs ?_|(refine br ?_ ?_<;>first|exact bx|intro _)|((with_reducible refine aG FE ?_);(refine bC (ady (t:=t) okt (by omega) aB aB) ?_ ?_<;>intro hn))|((with_reducible refine aG Eh ?_);(refine bC (aag ht (agT (by assumption)) (Ug (by assumption) (by assumption)) ⟨_,_,_,_,_,_,_,_,_,_,_,_,_,_,_,_,_,_,_,_,_,_,rfl,rfl,aB,aB,aB,aB,aB,aB,aB,aB,aB,aB,aB⟩) ?_ ?_<;>intro hn))|fail)
  all_goals first
   |(refine pf fun k=>?_;have k:=k.2.1 i t ht;first|exact absurd k.1 (by assumption)|exact absurd (k.2 (by assumption)) (by assumption))
   |skip
  all_goals
   have hD:lq x i t:=⟨by assumption,by intro hh;first|assumption|exact absurd (by assumption) hh⟩
   refine aQ (yB (t:=t)) ?_
   refine br (fun vR=>?_) (fun hlt2=>?_)
   ·have hzl:=hbz.2 vR
    obtain⟨y,hy,-,-⟩:=aU (show(bJ t x.st.length).toNat < hs'.length by omega)
    refine vs ?_
    refine aiT aB (by omega) hy ?_
    refine br (fun hne=>?_) (fun heq=>?_)
    ·(repeat' first|refine vs ?_|fail)
     exact pf fun k=>by
      obtain⟨-,-,h5,r5,hl5,-⟩:=k
      rw[Bv (ahj hlk ht (ahL vR hy hne)) (by omega)] at hl5;cases hl5
    ·refine dO (Wn (n:=h.n+1) (y:=i) aB aY (by omega) (by omega) ?_)
     intro h3 ek3 kp3 hn3 rG3 oG3
     have e3:=ek3 _ (aI:Ext (h.push ⟨(x.cs v0 v1 v2 v3 v4 v5 v6 v7 v8 v9 v10),0,0⟩) _) (by simp)
     have hsS:=Vu (k:=i) vR hy heq
     have bt:Bk h3 h2.n [.int .i64 t.op,.int .i64 t.pc,.int .i64 t.s.trace,.int .i64 t.s.id,.int .i64 t.s.start,.int .i64 t.s.fin,.bool t.s.err,va,.int .i64 t.trace,.int .i64 t.stamp,vb,.int .i64 t.h] 0:=bI kp3 aO (CB rG' (Nat.le_refl _))
     (repeat' first|refine vs ?_|(refine br ?_ ?_<;>first|exact bo|intro _)|((with_reducible refine aG kU ?_);(refine bC (yD (t:=t)) ?_ ?_<;>intro hn))|fail)
     all_goals first
      |(refine pf fun k=>?_;obtain⟨-,-,h5,r5,hl5,-⟩:=k;rw[Bv (U4 hlk ht (Vw (by assumption) (by assumption))) (by omega)] at hl5;cases hl5)
      |exact⟨by omega,_,_,_,_,_,rfl,by omega,aI,aV,by simpa using hlen,Ch hlk ht hsS (LX (by assumption) (by assumption)),aB,aY,upS hu ht hD⟩
      |exact⟨by omega,_,_,_,_,_,rfl,by omega,aI,aV,by simpa using hlen,Ch hlk ht hsS (LY (by assumption)),aB,aY,upS hu ht hD⟩
   ·have hsS:=Vv (k:=i) (hs:=hs') hlt2
    (repeat' first|refine vs ?_|(refine br ?_ ?_<;>first|exact bo|intro _)|((with_reducible refine aG kU ?_);(refine bC (yD (t:=t)) ?_ ?_<;>intro hn))|fail)
    all_goals first
     |(refine pf fun k=>?_;obtain⟨-,-,h5,r5,hl5,-⟩:=k;rw[Bv (U4 hlk ht (Vw (by assumption) (by assumption))) (by omega)] at hl5;cases hl5)
     |exact⟨by omega,_,_,_,_,_,rfl,by omega,aI,aV,hlen,Ch hlk ht hsS (LX (by assumption) (by assumption)),aB,aY,upS hu ht hD⟩
     |exact⟨by omega,_,_,_,_,_,rfl,by omega,aI,aV,hlen,Ch hlk ht hsS (LY (by assumption)),aB,aY,upS hu ht hD⟩
 ·have ei:i=x.tasks.length:=by omega
  subst ei
  have hu:=tK hu
  (repeat' first|refine vs ?_|refine gS ?_|fail)
  refine aX x.st.length (fun i vs h3=>vs=[.int .i64 (i:Int)]∧i≤x.st.length∧Ext h2 h3∧eZ x.st (fun i s=>hs'[i]? =some s.held) i) ⟨rfl,Nat.zero_le _,Ext.refl _,up0⟩ ?_
  rintro i vs h3 _ ⟨rfl,hi3,e3,hu3⟩
  simp only[g0]
  refine br (fun hlt=>?_) (fun YD=>?_)
  ·obtain⟨s,hx,-,-⟩:=aU (show i < x.st.length by omega)
   obtain⟨y,hy,-,-⟩:=aU (show i < hs'.length by omega)
   (repeat' first|refine vs ?_|(refine br ?_ ?_<;>first|exact bx|intro _)|((with_reducible refine bB ?_);((refine ix ?_);first|rintro _ _ _ _ _ ⟨rfl,rfl⟩ _|rintro _ _ _ _ _ ⟨_,rfl,_⟩ _))|fail)
   ·exact pf fun k=>by
     obtain⟨-,-,h5,r5,hl5,hh,-⟩:=k
     rw[hlk] at hl5;cases hl5
     have:=hh i s hx
     rw[hy] at this;cases this
     contradiction
   ·exact⟨by omega,rfl,by omega,aI,upS hu3 hx (by rw[hy];congr 1;omega)⟩
  ·rw[show i=x.st.length by omega] at hu3
   have hu3:=tK hu3
   (repeat' first|refine vs ?_|(refine br ?_ ?_<;>first|exact bx|intro _)|fail)
   ·exact pt ⟨by omega,hu,_,_,hlk,hu3,by assumption⟩
   ·exact pf fun k=>by
     obtain⟨-,-,h5,r5,hl5,hh,hr⟩:=k
     rw[hlk] at hl5;cases hl5
     contradiction
end Go.Proofs.YtcgjihfngdhjjaaGreat
end
section
set_option maxHeartbeats 8000000
namespace Go.Proofs.YtcgjihfngdhjjaaGreat
open Go Go.Ab
section
abbrev aao (Yc:AV) (v1:AV):Prog:=Ln 0 Yc fun a=>.loop [.int .i64 0] (fun b=>Bn .lss (g b 0) a fun a=>.ite a (Ix 3 Yc (g b 0) fun a=>Ld 3 a fun a=>.op (.alloc [.int .i64 0,.int .i64 0,.int .i64 0]) fun c=>.op (.st 3 c a) fun _=>Lg 0 c fun a=>Bn .lss a (.int .i64 1) fun a=>Gf a false 1 c fun c=>.gop a false (.call bT [c,.int .i64 1,.int .i64 999]) fun c=>.gop a false (.una .not c) fun c=>Pk a (.bool true) c fun a=>.ite a (.fin [.val (.bool false)]) (Bn .add (g b 0) (.int .i64 1) fun a=>.leaf 0 [a])) (.leaf 2 [g b 0])) fun a b=>aC a 1 (.leaf 1 b) (aC a 2 (Lg 30 v1 fun a=>Ln 0 a fun b=>.loop [.int .i64 0] (fun c=>Bn .lss (g c 0) b fun b=>.ite b (Ix 20 a (g c 0) fun a=>Ld 20 a fun a=>.op (.alloc jR) fun b=>.op (.st 20 b a) fun _=>Ld 20 b fun a=>Cl FH [a] fun a=>.op (.una .not a) fun a=>Gf a false 17 b fun d=>Gf a false 18 b fun e=>Gf a false 19 b fun b=>.gop a false (.mnx false [d,e,b]) fun b=>Gf a false 12 v1 fun d=>.gop a false (.bin 0 .geq b d) fun b=>Pk a (.bool true) b fun a=>.ite a (.fin [.val (.bool false)]) (Bn .add (g c 0) (.int .i64 1) fun a=>.leaf 0 [a])) (.leaf 4 [g c 0])) fun a b=>aC a 1 (.leaf 1 b) (aC a 4 (.fin [.val (.bool true)]) .bad)) .bad)
abbrev aan (qW:AV) (v1:AV):Prog:=Gf qW false 27 v1 fun a=>.gop qW false (.len 0 a) fun a=>.gop qW false (.fad 0 v1) fun b=>Gf qW false 4 b fun b=>.gop qW false (.bin 0 .gtr a b) fun a=>Pk qW (.bool true) a fun a=>Gf a false 27 v1 fun b=>.gop a false (.call Bb [b]) fun b=>.gop a false (.una .not b) fun b=>Pk a (.bool true) b fun a=>Gf a false 28 v1 fun b=>.gop a false (.call Bb [b]) fun b=>.gop a false (.una .not b) fun b=>Pk a (.bool true) b fun a=>.ite a (.fin [.val (.bool false)]) (Lg 26 v1 fun a=>aao a v1)
abbrev aam (v80:AV) (v1:AV):Prog:=.op (.ld1 v80) fun a=>.op (.fad 0 v1) fun b=>Lg 3 b fun b=>Cl E8 [a,b] fun a=>.op (.una .not a) fun a=>.gop a false (.fad 21 v1) fun b=>.gop a false (.ld1 b) fun c=>Gf a false 14 v1 fun d=>.gop a false (.call Es [d]) fun d=>.lN a false (.ld1 b) c (.gop a false (.bin 0 .neq c d) fun b=>Pk a (.bool true) b fun a=>Gf a false 21 v1 fun b=>.gop a false (.fad 0 v1) fun c=>Gf a false 2 c fun c=>.gop a false (.bin 0 .gtr b c) fun b=>Pk a (.bool true) b fun a=>aan a v1)
abbrev aal (v55:AV) (v60:AV) (v58:AV) (v1:AV):Prog:=.gop v55 false (.ld1 v60) fun a=>.gop v55 false (.bin 0 .neq v58 a) fun a=>Pk v55 (.bool true) a fun a=>.gop a false (.fad 16 v1) fun b=>Gf a false 1 b fun b=>.gop a false (.fad 0 v1) fun c=>Gf a false 6 c fun c=>.gop a false (.bin 0 .neq b c) fun b=>Pk a (.bool true) b fun a=>.gop a false (.fad 16 v1) fun b=>Gf a false 3 b fun b=>.gop a false (.fad 22 v1) fun c=>Gf a false 0 c fun c=>.gop a false (.bin 0 .gtr b c) fun b=>Pk a (.bool true) b fun a=>.ite a (.fin [.val (.bool false)]) (.op (.fad 20 v1) fun a=>aam a v1)
abbrev aak (v40:AV) (v1:AV):Prog:=Gf v40 false 13 v1 fun a=>.gop v40 false (.mv a) fun a=>.gop a true (.fad 22 v1) fun b=>.gop a true (.ldn 4 b) fun b=>.gop a true (.call rQ [b]) fun b=>.gop a true (.len 0 b) fun b=>.gop a true (.bin 0 .gtr b (.int .i64 0)) fun b=>.gop v40 false (.pick a b (.bool false)) fun a=>Pk v40 (.bool true) a fun a=>.gop a false (.fad 16 v1) fun b=>.gop a false (.ldn 4 b) fun b=>.gop a false (.call ED [b]) fun b=>.gop a false (.una .not b) fun b=>Pk a (.bool true) b fun a=>.gop a false (.fad 16 v1) fun b=>Gf a false 0 b fun b=>.gop a false (.fad 0 v1) fun c=>.gop a false (.fad 5 c) fun c=>aal a c b v1
abbrev aaj (v18:AV) (v20:AV) (v1:AV):Prog:=.gop v18 false (.call Er [v20]) fun a=>.gop v18 false (.una .not a) fun a=>Pk v18 (.bool true) a fun a=>Gf a false 14 v1 fun b=>.gop a false (.len 0 b) fun b=>.gop a false (.fad 0 v1) fun c=>Gf a false 0 c fun c=>.gop a false (.bin 0 .neq b c) fun b=>Pk a (.bool true) b fun a=>.ite a (.fin [.val (.bool false)]) (.op (.fad 22 v1) fun a=>Ld 4 a fun a=>Cl EW [a] fun a=>.op (.una .not a) fun a=>.gop a false (.fad 22 v1) fun b=>Gf a false 0 b fun b=>.gop a false (.bin 0 .gtr b (.int .i64 100000)) fun b=>Pk a (.bool true) b fun a=>aak a v1)
def Pt (x0:AV):Prog:=.op (.box x0) fun a=>.op (.fad 0 a) fun b=>Ld 12 b fun b=>Cl FI [b] fun b=>.op (.una .not b) fun b=>Gf b false 12 a fun c=>.gop b false (.bin 0 .lss c (.int .i64 0)) fun c=>Pk b (.bool true) c fun b=>Gf b false 15 a fun c=>.gop b false (.call bT [c,.int .i64 (-1),.int .i64 4]) fun c=>.gop b false (.una .not c) fun c=>Pk b (.bool true) c fun b=>Gf b false 31 a fun c=>.gop b false (.bin 0 .lss c (.int .i64 1)) fun c=>Pk b (.bool true) c fun b=>Gf b false 14 a fun c=>aaj b c a
theorem abI (x0:AV):CC Tryz.prog Ez [x0] (Pt x0):=cc Tryz.func46 [1,141,142,143,158,159,160] (fun r=>if r=5 then[(0,[]),(1,[]),(2,[]),(3,[]),(4,[]),(5,[]),(6,[]),(7,[]),(8,[]),(9,[]),(10,[]),(11,[]),(12,[9]),(13,[]),(14,[]),(15,[]),(16,[]),(17,[]),(18,[]),(19,[]),(20,[]),(21,[]),(22,[]),(23,[]),(24,[]),(25,[]),(26,[]),(27,[]),(28,[]),(29,[]),(30,[]),(31,[]),(32,[]),(33,[]),(34,[]),(35,[]),(36,[]),(37,[]),(38,[]),(39,[]),(40,[]),(41,[]),(42,[]),(43,[])] else[])
end
theorem ajy {P:Program} {h:AH} {Q:Nat→List AV→AH→Prop} {g:Bool} {o:AOp} {k:AV→Prog} (b:Bool) (hk:(Prog.gop (.bool b) g o k).awp P h Q):(Prog.gop (.bool b) g o k).awp P h Q:=hk
theorem ai5 {P:Program} {h:AH} {Q:Nat→List AV→AH→Prop} {k:AV→Prog} {a b c:Int} (hk:(k (.int .i64 (max (max a b) c))).awp P h Q):(Prog.op (.mnx false [.int .i64 a,.int .i64 b,.int .i64 c]) k).awp P h Q:=by
 simp only[Prog.awp,AOp.go,vW,qN,Bool.false_eq_true,if_false]
 have e:∀ x y:Int,(if x < y then y else x)=max x y:=fun x y=>by split<;>omega
 simp only[e]
 exact hk
def Ms (x:Wld):Prop:=nI x.c∧0≤x.time∧1≤x.next∧Gm x.st∧(x.st.length:Int)=x.c.dK∧iT x.b∧x.b.rate=x.c.rate∧x.b.aZ=x.c.aZ∧x.b.at_≤x.w.now∧cOk x.cache x.c.cache∧
 x.used=held x.st∧x.used≤x.c.budget∧kK x.w∧x.w.now≤100000∧(x.shut=true→¬ 0 < ((timers x.w).length:Int))∧(x.queue.length:Int)≤x.c.queue∧(∀ y∈x.queue,kZ y)∧(∀ y∈x.out,kZ y)∧
 ∀ d∈x.aF,jL d∧d.inv < x.time∧d.lin < x.time∧d.res < x.time
def XP (x:Wld):Prop:=∀ t∈x.due,1≤t.id∧(1≤t.trace∧t.trace≤999)
theorem abj {h:AH} {x:Wld} {cs:List AV} {F:List Nat} (ok:Cel.ok x) (hs:Sz.sz x≤67108864) (r:Cel.rep h x cs F):
  aP Tryz.prog Ez [.agg cs] h (.bool (bp (Ms x∧(-1≤x.bg∧x.bg≤4)∧XP x))):=by
 obtain⟨v0,v1,v2,v3,v4,v5,v6,v7,v8,v9,v10,F0,F1,F2,F3,F4,F5,F6,F7,F8,F9,F10,rfl,rfl,r0,r1,r2,r3,r4,r5,r6,r7,r8,r9,r10⟩:=r
 obtain⟨Yt,aii,XE,afe,akJ,ahg,aif,akH,ajp,UZ,WW,UY,ahf,aij⟩:=ok
 have hs:Sz.sz x.c+(x.st.length+szs x.st)+(x.cache.length+szs x.cache)+Sz.sz x.w+(x.due.length+szs x.due)+(x.queue.length+szs x.queue)+(x.out.length+szs x.out)+(x.tasks.length+szs x.tasks)+(x.aF.length+szs x.aF)≤67108864:=hs
 have hl1:=r1.small
 have hl6:=r6.small
 have hl7:=r7.small
 have akZ:=r10.small
 refine reader (abI _) (by simp only[old]) ?_
 unfold Pt
 (repeat' first|refine vs ?_|((with_reducible refine ajy x.shut ?_);generalize hsh:x.shut=bsh;cases bsh)|(refine br ?_ ?_<;>first|exact bx|intro _)|((with_reducible refine aG bT ?_);(refine dS (jG) ?_ ?_<;>intro hb<;>(first|replace hb:=fE hb|replace hb:=fG hb)))|((with_reducible refine aG FI ?_);(refine bC (adB (c:=x.c) Yt.2.2.2.2.2.2.2 aB) ?_ ?_<;>intro hn))|((with_reducible refine aG Er ?_);(refine bC (aaJ XE aV aB) ?_ ?_<;>intro hn))|((with_reducible refine aG EW ?_);(refine bC (aci (w:=x.w) aV aB aB aB) ?_ ?_<;>intro hn))|((with_reducible refine aG rQ ?_);(refine aL (yK (w:=x.w) aV aB aB aB) ?_;rintro _ _ ⟨e_,_,_,_⟩;have n_:=e_.1;(try simp only[aJ,aN] at n_)))|((with_reducible refine aG ED ?_);(refine bC (abo (b:=x.b)) ?_ ?_<;>intro hn))|((with_reducible refine aG E8 ?_);(refine bC (acr aB) ?_ ?_<;>intro hn))|((with_reducible refine aG Es ?_);refine aQ (aaK (l:=x.st) aV aB) ?_)|((with_reducible refine aG Bb ?_);((first|refine dS (PY (xs:=x.queue) UZ aV aB) ?_ ?_|refine dS (PY (xs:=x.out) WW aV aB) ?_ ?_)<;>intro hn<;>first|replace hn:=oU hn|replace hn:=wR hn))|fail)
 all_goals first
  |(refine pf fun k=>?_;obtain⟨⟨a1,a2,a3,a4,a5,a6,a7,a8,a9,a10,a11,a12,a13,a14,a15,a16,a17,a18,a19⟩,b1,b2⟩:=k;first|contradiction|omega|(have:=a15 (by assumption);omega))
  |skip
 all_goals
  refine aX x.due.length (fun i vs h1=>vs=[.int .i64 (i:Int)]∧i≤x.due.length∧Ext (h.push ⟨(x.cs v0 v1 v2 v3 v4 v5 v6 v7 v8 v9 v10),0,0⟩) h1∧eZ x.due (fun _ t=>1≤t.id∧(1≤t.trace∧t.trace≤999)) i) ⟨rfl,Nat.zero_le _,aI,up0⟩ ?_
  rintro i vs h1 _ ⟨rfl,hi,e1,hu⟩
  simp only[g0]
  refine br (fun hlt=>?_) (fun hge=>?_)
  ·obtain⟨t,ht,-,-⟩:=aU (show i < x.due.length by omega)
   (repeat' first|refine vs ?_|(refine br ?_ ?_<;>first|exact bx|intro _)|((with_reducible refine aG bT ?_);(refine dS (jG) ?_ ?_<;>intro hb<;>(first|replace hb:=fE hb|replace hb:=fG hb)))|((with_reducible refine bB ?_);((refine ix ?_);rintro _ _ _ _ _ ⟨rfl,rfl⟩ _))|fail)
   all_goals first
    |exact pf fun k=>nN ht (by rintro⟨a1,a2⟩;omega) k.2.2
    |exact⟨by omega,rfl,by omega,aI,upS hu ht (by omega)⟩
  rw[show i=x.due.length by omega] at hu
  have ND:=jV hu
  clear hi hge hu
  (repeat' first|refine vs ?_|fail)
  refine aX x.aF.length (fun i vs h2=>vs=[.int .i64 (i:Int)]∧i≤x.aF.length∧Ext (h.push ⟨(x.cs v0 v1 v2 v3 v4 v5 v6 v7 v8 v9 v10),0,0⟩) h2∧eZ x.aF (fun _ d=>jL d∧d.inv < x.time∧d.lin < x.time∧d.res < x.time) i) ⟨rfl,Nat.zero_le _,aI,up0⟩ ?_
  rintro i vs h2 _ ⟨rfl,hi,e2,hu⟩
  simp only[g0]
  refine br (fun hlt=>?_) (fun hge=>?_)
  ·obtain⟨t,ht,-,-⟩:=aU (show i < x.aF.length by omega)
   (repeat' first|refine vs ?_|(with_reducible refine ai5 ?_)|(refine br ?_ ?_<;>first|exact bx|intro _)|((with_reducible refine aG FH ?_);(refine bC (adA (d:=t)) ?_ ?_<;>intro hn))|((with_reducible refine bB ?_);((refine ix ?_);rintro _ _ _ _ _ ⟨_,rfl,_⟩ _))|fail)
   all_goals first
    |(refine pf fun k=>nN ht (by rintro⟨a1,a2⟩;first|contradiction|omega) k.1.2.2.2.2.2.2.2.2.2.2.2.2.2.2.2.2.2.2)
    |exact⟨by omega,rfl,by omega,aI,upS hu ht ⟨by assumption,by omega⟩⟩
  rw[show i=x.aF.length by omega] at hu
  have ajv:=jV hu
  (repeat' first|refine vs ?_|fail)
  exact pt ⟨⟨by assumption,by omega,by omega,by assumption,by omega,by assumption,by omega,by omega,by omega,by assumption,by omega,by omega,by assumption,by omega,by intro hh;first|omega|(rw[hsh] at hh;cases hh),by omega,by assumption,by assumption,ajv⟩,by omega,ND⟩
end Go.Proofs.YtcgjihfngdhjjaaGreat
end
section
set_option maxHeartbeats 8000000
namespace Go.Proofs.YtcgjihfngdhjjaaGreat
open Go Go.Ab
section
end
end Go.Proofs.YtcgjihfngdhjjaaGreat
end
section
set_option maxHeartbeats 8000000
namespace Go.Proofs.YtcgjihfngdhjjaaGreat
open Go Go.Ab
section
end
def eO (x:Wld):List Ab.Timer:=timers x.w++x.due
def isJ (id stamp:Int) (t:Task):Prop:=t.op=2∧t.pc≠3∧t.stamp=stamp∧t.trace=id
def known (x:Wld) (id stamp:Int):Prop:=(∃ t∈eO x,t.id=stamp∧t.trace=id)∨∃ t∈x.tasks,isJ id stamp t
theorem agR (w:bn):(timers w).length≤Sz.sz w:=by
 have h0:=pG w.near
 have h1:=pG w.far
 have hsz:Sz.sz w=(w.near.length+szs w.near)+(w.far.length+szs w.far)+(w.rest.length+szs w.rest):=rfl
 unfold timers
 simp only[List.length_append];omega
def ahQ (x:Wld):Prop:=(∀ (i:Nat) (s:aR),x.st[i]? =some s→∀ t∈s.l,t.stamp < x.next∧known x t.id t.stamp)∧(∀ v∈x.cache,v.stamp < x.next)∧∀ t∈eO x,(1≤t.id∧t.id≤x.next - 1)∧(1≤t.trace∧t.trace≤999)
end Go.Proofs.YtcgjihfngdhjjaaGreat
end
section
set_option maxHeartbeats 8000000
namespace Go.Proofs.YtcgjihfngdhjjaaGreat
open Go Go.Ab
section
def Ot (x0 x1:AV):Prog:=.op (.box x0) fun a=>Lg 0 a fun b=>Lg 1 x1 fun c=>Bn .eql b c fun b=>Gf b true 1 a fun a=>Gf b true 0 x1 fun c=>.gop b true (.bin 0 .eql a c) fun a=>Pk b a (.bool false) fun a=>.fin [.val a]
theorem aax (x0 x1:AV):CC Tryz.prog JE [x0,x1] (Ot x0 x1):=cc Tryz.func110
def Oq (x0 x1:AV):Prog:=Lg 31 x1 fun a=>Bn .geq x0 a fun a=>.fin [.val a]
theorem aaw (x0 x1:AV):CC Tryz.prog JD [x0,x1] (Oq x0 x1):=cc Tryz.func112
def NW (x0 x1:AV):Prog:=Cl yA [x0,x1] fun a=>Bn .geq a (.int .i64 0) fun a=>.fin [.val a]
theorem Zq (x0 x1:AV):CC Tryz.prog DY [x0,x1] (NW x0 x1):=cc Tryz.func109
def N8 (x0 x1:AV):Prog:=Ln 0 x0 fun a=>.loop [.int .i64 0] (fun b=>Bn .lss (g b 0) a fun a=>.ite a (Ix 1 x0 (g b 0) fun a=>.op (.ld1 a) fun a=>.op (.gW x1 [a]) fun a=>.ite a (.fin [.val (g b 0)]) (Bn .add (g b 0) (.int .i64 1) fun a=>.leaf 0 [a])) (.leaf 2 [g b 0])) fun a b=>aC a 1 (.leaf 1 b) (aC a 2 (.fin [.val (.int .i64 (-1))]) .bad)
theorem ZU (x0 x1:AV):CC Tryz.prog Ea [x0,x1] (N8 x0 x1):=cc Tryz.func183 [0,1,7,8] (fun _=>[])
def NZ (x0 x1:AV):Prog:=Cl Ea [x0,x1] fun a=>Bn .geq a (.int .i64 0) fun a=>.fin [.val a]
theorem ZC (x0 x1:AV):CC Tryz.prog D6 [x0,x1] (NZ x0 x1):=cc Tryz.func111
abbrev aaq (v46:AV) (Ao:List AV) (v44:AV):Prog:=.op (.ld1 v46) fun a=>.op (.aS 1 1 [.int .i64 0] [(0,1,a)]) fun a=>.op (.app 1 8 (g Ao 0) a) fun a=>Lg 0 v44 fun b=>Bn .eql b (.int .i64 2) fun b=>Gf b true 1 v44 fun c=>.gop b true (.bin 0 .neq c (.int .i64 3)) fun c=>Pk b c (.bool false) fun b=>.scope (.ite b (Lg 9 v44 fun a=>Lg 8 v44 fun b=>.op (.build [.int .i64 0,.int .i64 0,.int .i64 0] [(0,1,a),(1,1,b)]) fun a=>.op (.aS 3 1 [.int .i64 0,.int .i64 0,.int .i64 0] [(0,3,a)]) fun a=>.op (.app 3 24 (g Ao 1) a) fun a=>.leaf 0 [a]) (.leaf 0 [g Ao 1])) (fun b=>Bn .add (g Ao 2) (.int .i64 1) fun c=>.leaf 0 [a,g b 0,c]) fun a b=>aC a 1 (.leaf 1 b) .bad
abbrev aap (v74:AV) (X9:List AV) (Ao:List AV):Prog:=Ld 4 v74 fun a=>.op (.alloc [.int .i64 0,.int .i64 0,.int .i64 0,.aA]) fun b=>.op (.st 4 b a) fun _=>Lg 1 b fun a=>.op (.aS 1 1 [.int .i64 0] [(0,1,a)]) fun a=>.op (.app 1 8 (g X9 0) a) fun a=>.op (.tY JE [b]) fun b=>Cl DY [g Ao 1,b] fun b=>.op (.una .not b) fun b=>.ite b (.fin [.val (.bool false)]) (Bn .add (g X9 1) (.int .i64 1) fun b=>.leaf 0 [a,b])
def Pv (x0:AV):Prog:=.op (.box x0) fun a=>.op (.fad 22 a) fun b=>Ld 4 b fun b=>.op (.fad 26 a) fun c=>.op (.ld1 c) fun d=>Cl rQ [b] fun b=>.chk (.ld1 c) d (.op (.app 3 24 b d) fun b=>Ln 0 b fun c=>.loop [.aA,.int .i64 0] (fun a=>Bn .lss (g a 1) c fun c=>.ite c (Ix 3 b (g a 1) fun b=>Ld 3 b fun b=>.op (.alloc [.int .i64 0,.int .i64 0,.int .i64 0]) fun c=>.op (.st 3 c b) fun _=>Lg 0 c fun b=>.op (.aS 1 1 [.int .i64 0] [(0,1,b)]) fun b=>.op (.app 1 8 (g a 0) b) fun b=>Bn .add (g a 1) (.int .i64 1) fun a=>.leaf 0 [b,a]) (.leaf 2 [g a 0,g a 1])) fun c d=>aC c 1 (.leaf 1 d) (aC c 2 (Lg 20 a fun c=>Ln 0 c fun e=>.loop [g d 0,.int .i64 0] (fun a=>Bn .lss (g a 1) e fun b=>.ite b (Ix 3 c (g a 1) fun b=>Ld 3 b fun b=>.op (.alloc [.int .i64 0,.int .i64 0,.bool false]) fun c=>.op (.st 3 c b) fun _=>Lg 1 c fun b=>.op (.aS 1 1 [.int .i64 0] [(0,1,b)]) fun b=>.op (.app 1 8 (g a 0) b) fun b=>Bn .add (g a 1) (.int .i64 1) fun a=>.leaf 0 [b,a]) (.leaf 4 [g a 0,g a 1])) fun c d=>aC c 1 (.leaf 1 d) (aC c 4 (Lg 29 a fun c=>Ln 0 c fun e=>.loop [g d 0,b,.int .i64 0] (fun a=>Bn .lss (g a 2) e fun b=>.ite b (Ix 12 c (g a 2) fun b=>Ld 12 b fun b=>.op (.alloc ji) fun c=>.op (.st 12 c b) fun _=>.op (.fad 9 c) fun b=>aaq b a c) (.leaf 6 [g a 0,g a 1,g a 2])) fun b c=>aC b 1 (.leaf 1 c) (aC b 6 (Lg 14 a fun b=>Cl AU [b] fun b=>Ln 0 b fun d=>.loop [g c 0,.int .i64 0] (fun a=>Bn .lss (g a 1) d fun d=>.ite d (Ix 4 b (g a 1) fun b=>aap b a c) (.leaf 8 [g a 0,g a 1])) fun b c=>aC b 1 (.leaf 1 c) (aC b 8 (.op (.tY JD [a]) fun a=>Cl D6 [g c 0,a] fun a=>.op (.una .not a) fun a=>.fin [.val a]) .bad)) .bad)) .bad)) .bad))
theorem abJ (x0:AV):CC Tryz.prog EA [x0] (Pv x0):=cc Tryz.func48 [1,3,4,19,20,21,32,33,34,45,46,47,75,76,77] (fun r=>if r=2 then[(0,[]),(1,[]),(3,[]),(4,[]),(2,[4]),(5,[]),(6,[])] else[])
end
def Ar (id stamp:Int) (t:Ab.Timer):Bool:=decide (t.id=stamp∧t.trace=id)
theorem aek {h:AH} {b:Nat} {t:Trail} {v:AV} (a:At h b 0 (t.cs v)):Looks Ab.Timer Tryz.prog h JE [.ptr b 0] (Ar t.id t.stamp):=by
 rintro y cs F ⟨rfl,rfl⟩
 refine reader (aax _ _) (by simp only[old]) ?_
 unfold Ot
 (repeat' first|refine vs ?_|(refine br ?_ ?_<;>first|exact bx|intro _)|fail)
 all_goals(refine pb ?_;simp[Ar];omega)
theorem Zn {h:AH} {xs:List Ab.Timer} {x0:AV} {F:List Nat} {f:FuncId} {caps:List AV} {p:Ab.Timer→Bool} (r:ah h x0 xs F) (hf:Looks Ab.Timer Tryz.prog h f caps p):
  aP Tryz.prog DY [x0,.fn f caps] h (.bool (bp (∃ x∈xs,p x=true))):=by
 refine reader (Zq _ _) (by simp only[old]) ?_
 unfold NW
 (repeat' first|refine vs ?_|(refine br ?_ ?_<;>first|exact bx|intro _)|((with_reducible refine aG yA ?_);refine aQ (N7 aB hf) ?_)|fail)
 ·exact pt (zQ.1 (by assumption))
 ·exact pf fun k=>absurd (zQ.2 k) (by assumption)
theorem aej {h:AH} {b:Nat} {x:Wld} {v0 v1 v2 v3 v4 v5 v6 v7 v8 v9 v10:AV} {n:Int} (a:At h b 0 (x.cs v0 v1 v2 v3 v4 v5 v6 v7 v8 v9 v10)):aP Tryz.prog JD [.int .i64 n,.ptr b 0] h (.bool (decide (n ≥ x.next))):=by
 refine reader (aaw _ _) (by simp only[old]) ?_
 unfold Oq
 (repeat' first|refine vs ?_|(refine br ?_ ?_<;>first|exact bx|intro _)|fail)
 all_goals(refine pb ?_;simp;omega)
theorem ZP {h:AH} {xs:List Int} {x0:AV} {F:List Nat} {f:FuncId} {caps:List AV} {p:Int→Bool} (r:ah h x0 xs F) (hf:∀ n,aP Tryz.prog f (.int .i64 n::caps) h (.bool (p n))):
  aP Tryz.prog Ea [x0,.fn f caps] h (.int .i64 (idx p xs)):=by
 refine reader (ZU _ _) (by simp only[old]) ?_
 unfold N8
 have hsm:=r.small
 refine eG r ?_
 refine aX xs.length (fun i vs h1=>vs=[.int .i64 (i:Int)]∧i≤xs.length∧h1=h∧∀ j y,j < i→xs[j]? =some y→p y=false) ⟨rfl,Nat.zero_le _,rfl,fun j y hj=>by omega⟩ ?_
 rintro i vs h1 _ ⟨rfl,hi,rfl,hn⟩
 simp only[g0]
 refine br (fun hlt=>?_) (fun hge=>?_)
 ·obtain⟨x,hx,-,htk⟩:=aU (show i < xs.length by omega)
  refine dL (dw r hx rfl ?_)
  rintro bb o _ Fi a ⟨rfl,rfl⟩ _
  refine Ls a (Ext.refl _) (uL (hf x) (CS ?_ ?_))
  ·intro hp
   exact jB (pi (by rw[xA hx hp hn]))
  ·intro hp
   (repeat' first|refine vs ?_|fail)
   refine⟨by omega,rfl,by omega,rfl,fun j y hj hy=>?_⟩
   by_cases e:j=i
   ·subst e;rw[hx] at hy;cases hy;exact hp
   ·exact hn j y (by omega) hy
 ·have e:i=xs.length:=by omega
  subst e
  (repeat' first|refine vs ?_|fail)
  exact pi (CF hn).symm
theorem ZB {h:AH} {xs:List Int} {x0:AV} {F:List Nat} {f:FuncId} {caps:List AV} {p:Int→Bool} (r:ah h x0 xs F) (hf:∀ n,aP Tryz.prog f (.int .i64 n::caps) h (.bool (p n))):
  aP Tryz.prog D6 [x0,.fn f caps] h (.bool (bp (∃ x∈xs,p x=true))):=by
 refine reader (ZC _ _) (by simp only[old]) ?_
 unfold NZ
 (repeat' first|refine vs ?_|(refine br ?_ ?_<;>first|exact bx|intro _)|((with_reducible refine aG Ea ?_);refine aQ (ZP aB hf) ?_)|fail)
 ·exact pt (zQ.1 (by assumption))
 ·exact pf fun k=>absurd (zQ.2 k) (by assumption)
end Go.Proofs.YtcgjihfngdhjjaaGreat
end
section
set_option maxHeartbeats 8000000
namespace Go.Proofs.YtcgjihfngdhjjaaGreat
open Go Go.Ab
def Dm (t:Task):Ab.Timer:=⟨t.stamp,t.trace,0⟩
def judges (l:List Task):List Ab.Timer:=(l.filter fun t=>decide (t.op=2∧t.pc≠3)).map Dm
theorem ahn {l:List Task} {i:Nat} {t:Task} (htk:l.take (i+1)=l.take i++[t]) (h:t.op=2∧t.pc≠3):judges (l.take (i+1))=judges (l.take i)++[Dm t]:=by
 rw[htk];unfold judges;rw[List.filter_append,List.map_append];congr 1;simp[h]
theorem aho {l:List Task} {i:Nat} {t:Task} (htk:l.take (i+1)=l.take i++[t]) (h: ¬ (t.op=2∧t.pc≠3)):judges (l.take (i+1))=judges (l.take i):=by
 rw[htk];unfold judges;rw[List.filter_append,List.map_append];simp[h]
theorem afH (l:List Task) (i:Nat):(judges (l.take i)).length≤l.length:=by
 unfold judges
 have h1:=List.length_filter_le (fun t:Task=>decide (t.op=2∧t.pc≠3)) (l.take i)
 have h2:=List.length_take_le' i l
 rw[List.length_map];omega
theorem Uq {x:Wld} {id stamp:Int}:(∃ y∈eO x++judges x.tasks,Ar id stamp y=true)↔known x id stamp:=by
 constructor
 ·rintro⟨y,hy,hp⟩
  simp only[Ar,decide_eq_true_eq] at hp
  rcases List.mem_append.1 hy with hy|hy
  ·exact .inl ⟨y,hy,hp⟩
  ·unfold judges at hy
   obtain⟨t,ht,rfl⟩:=List.mem_map.1 hy
   obtain⟨hm,hq⟩:=List.mem_filter.1 ht
   simp only[decide_eq_true_eq] at hq
   exact .inr ⟨t,hm,hq.1,hq.2,hp.1,hp.2⟩
 ·rintro(⟨y,hy,hp⟩|⟨t,ht,h1,h2,h3,h4⟩)
  ·exact⟨y,List.mem_append_left _ hy,by simp[Ar,hp]⟩
  ·refine⟨Dm t,List.mem_append_right _ ?_,by simp[Ar,Dm,h3,h4]⟩
   unfold judges
   exact List.mem_map.2 ⟨t,List.mem_filter.2 ⟨ht,by simp[h1,h2]⟩,rfl⟩
theorem Iw {α β:Type} (f:α→β) {l:List α} {i:Nat} {x:α} (htk:l.take (i+1)=l.take i++[x]):(l.take (i+1)).map f=(l.take i).map f++[f x]:=by rw[htk,List.map_append];rfl
theorem Iy {α β:Type} (f:α→β) (l:List α) (i:Nat):((l.take i).map f).length≤l.length:=by rw[List.length_map];exact List.length_take_le' i l
def GY (x:Wld):List Int:=(eO x).map (·.id)++(x.cache.map (·.stamp)++(x.tasks.map (·.stamp)++(allT x.st).map (·.stamp)))
def Vz (x:Wld):Prop:=(∀ t∈allT x.st,known x t.id t.stamp)∧∀ n∈GY x,n < x.next
theorem abk {h:AH} {x:Wld} {cs:List AV} {F:List Nat} (hs:Sz.sz x≤67108864) (r:Cel.rep h x cs F):
  aP Tryz.prog EA [.agg cs] h (.bool (bp (Vz x))):=by
 obtain⟨v0,v1,v2,v3,v4,v5,v6,v7,v8,v9,v10,F0,F1,F2,F3,F4,F5,F6,F7,F8,F9,F10,rfl,rfl,r0,r1,r2,r3,r4,r5,r6,r7,r8,r9,r10⟩:=r
 have hs:Sz.sz x.c+(x.st.length+szs x.st)+(x.cache.length+szs x.cache)+Sz.sz x.w+(x.due.length+szs x.due)+(x.queue.length+szs x.queue)+(x.out.length+szs x.out)+(x.tasks.length+szs x.tasks)+(x.aF.length+szs x.aF)≤67108864:=hs
 have hl2:=r2.small
 have hl9:=r9.small
 have htb:=agR x.w
 have hab:=CU x.st
 refine reader (abJ _) (by simp only[old]) ?_
 unfold Pv
 (repeat' first|refine vs ?_|fail)
 refine aL (yK (w:=x.w) aV aB aB aB) ?_
 rintro u h1 ⟨e1,G1,q1,o1⟩
 have n1:=e1.1
 simp only[aJ] at n1 o1
 refine vs ?_
 refine vM (n:=h.n+1) (xs:=timers x.w) (ys:=x.due) (Fx:=G1) q1 (aB:ah _ v6 x.due F6) o1 aV rfl (by omega) (by omega) ?_
 intro v h4 T kp0 kp q2 o2
 have e4:=kp0 _ e1 (by simp)
 have n4:=e4.1
 simp only[aJ] at n4
 have hlen:(timers x.w++x.due).length=(timers x.w).length+x.due.length:=by simp
 clear kp0 kp e1 n1 q1 o1
 change ah h4 v (eO x) T at q2
 have hlen:(eO x).length=(timers x.w).length+x.due.length:=hlen
 have hsm:=q2.small
 refine vs ?_
 refine aX (eO x).length (fun i vs h5=>∃ u G,vs=[u,.int .i64 (i:Int)]∧i≤(eO x).length∧Ext h4 h5∧ah h5 u (((eO x).take i).map (·.id)) G∧Own h4.n h5 G) ⟨_,_,rfl,Nat.zero_le _,Ext.refl _,ah.aA,Own.nil⟩ ?_
 rintro i vs h5 _ ⟨u,G,rfl,hi,e5,ru,ou⟩
 have n5:=e5.1
 simp only[g0,g1]
 have hml:=Iy (·.id) (eO x) i
 refine br (fun hlt=>?_) (fun hge=>?_)
 ·obtain⟨t,ht,-,htk⟩:=aU (show i < (eO x).length by omega)
  (repeat' first|refine vs ?_|((with_reducible refine bB ?_);((refine ix ?_);rintro _ _ _ _ _ ⟨rfl,rfl⟩ _))|fail)
  refine iC (n:=h4.n) (xs:=((eO x).take i).map (·.id)) (a:=t.id) (G:=[]) aB ⟨rfl,rfl⟩ (by rw[List.append_nil];exact aY) aV rfl (by omega) (by omega) ?_
  intro v' h' F' ek kp r' o' _
  (repeat' first|refine vs ?_|fail)
  exact⟨by omega,v',F',rfl,by omega,ek _ aI (Nat.le_refl _),by rw[Iw _ htk];exact r',o'⟩
 have ei:i=(eO x).length:=by omega
 subst ei
 rw[List.take_length] at ru
 clear hml hi hge
 (repeat' first|refine vs ?_|refine gS ?_|fail)
 refine aX x.cache.length (fun i vs h6=>∃ u G,vs=[u,.int .i64 (i:Int)]∧i≤x.cache.length∧Ext h4 h6∧ah h6 u ((eO x).map (·.id)++(x.cache.take i).map (·.stamp)) G∧Own h4.n h6 G) ⟨u,G,rfl,Nat.zero_le _,e5,by simpa using ru,ou⟩ ?_
 clear ru ou e5 n5
 rintro i vs h6 _ ⟨u,G,rfl,hi,e5,ru,ou⟩
 have n5:=e5.1
 simp only[g0,g1]
 have hml:=Iy (·.stamp) x.cache i
 have hll:((eO x).map (·.id)++(x.cache.take i).map (·.stamp)).length=(eO x).length+((x.cache.take i).map (·.stamp)).length:=by simp
 refine br (fun hlt=>?_) (fun hge=>?_)
 ·obtain⟨t,ht,-,htk⟩:=aU (show i < x.cache.length by omega)
  (repeat' first|refine vs ?_|((with_reducible refine bB ?_);((refine ix ?_);rintro _ _ _ _ _ ⟨rfl,rfl⟩ _))|fail)
  refine iC (n:=h4.n) (xs:=(eO x).map (·.id)++(x.cache.take i).map (·.stamp)) (a:=t.stamp) (G:=[]) aB ⟨rfl,rfl⟩ (by rw[List.append_nil];exact aY) aV rfl (by omega) (by omega) ?_
  intro v' h' F' ek kp r' o' _
  (repeat' first|refine vs ?_|fail)
  exact⟨by omega,v',F',rfl,by omega,ek _ aI (Nat.le_refl _),by rw[Iw _ htk,←List.append_assoc];exact r',o'⟩
 have ei:i=x.cache.length:=by omega
 subst ei
 rw[List.take_length] at ru
 clear hml hll hi hge
 (repeat' first|refine vs ?_|refine gS ?_|fail)
 have hGT:∀ c∈G,c ∉ T:=Vi ou q2 (Nat.le_refl _)
 refine aX x.tasks.length (fun i vs h7=>∃ u G w T,vs=[u,w,.int .i64 (i:Int)]∧i≤x.tasks.length∧Ext (h.push ⟨(x.cs v0 v1 v2 v3 v4 v5 v6 v7 v8 v9 v10),0,0⟩) h7∧ah h7 u ((eO x).map (·.id)++(x.cache.map (·.stamp)++(x.tasks.take i).map (·.stamp))) G∧Own (h.n+1) h7 G∧ah h7 w (eO x++judges (x.tasks.take i)) T∧Own (h.n+1) h7 T∧∀ c∈G,c ∉ T) ⟨u,G,v,T,rfl,Nat.zero_le _,aI,by simpa using ru,ou.mono (by omega) fun _ _=>rfl,by simpa[judges] using(aB:ah h6 v (eO x) T),aY,hGT⟩ ?_
 clear ru ou e5 n5 hGT q2 o2
 rintro i vs h7 _ ⟨u,G,w,T,rfl,hi,e7,ru,ou,rw',ow,hGT⟩
 have n7:=e7.1
 simp only[aJ] at n7
 simp only[g0,g1,g2]
 have hml:=Iy (·.stamp) x.tasks i
 have hjl:=afH x.tasks i
 have hll:((eO x).map (·.id)++(x.cache.map (·.stamp)++(x.tasks.take i).map (·.stamp))).length=(eO x).length+(x.cache.length+((x.tasks.take i).map (·.stamp)).length):=by simp
 have hlw:(eO x++judges (x.tasks.take i)).length=(eO x).length+(judges (x.tasks.take i)).length:=by simp
 refine br (fun hlt=>?_) (fun hge=>?_)
 ·obtain⟨t,ht,-,htk⟩:=aU (show i < x.tasks.length by omega)
  refine vs ?_
  refine dw r9 ht rfl ?_
  rintro b o _ Fi a ⟨va,vb,Fa,Fb,rfl,rfl,ra,rb⟩ _
  (repeat' first|refine vs ?_|refine gS ?_|fail)
  refine iC (n:=h.n+1) (xs:=(eO x).map (·.id)++(x.cache.map (·.stamp)++(x.tasks.take i).map (·.stamp))) (a:=t.stamp) (G:=[]) aB ⟨rfl,rfl⟩ (by rw[List.append_nil];exact aY) aV rfl (by omega) (by omega) ?_
  intro v' h8 F' ek kp r' o' hF
  have e8:=ek _ (aI:Ext (h.push ⟨(x.cs v0 v1 v2 v3 v4 v5 v6 v7 v8 v9 v10),0,0⟩) _) (by simp)
  have n8:=kp.1
  simp only[aJ] at n8
  have bt:Bk h8 h7.n [.int .i64 t.op,.int .i64 t.pc,.int .i64 t.s.trace,.int .i64 t.s.id,.int .i64 t.s.start,.int .i64 t.s.fin,.bool t.s.err,va,.int .i64 t.trace,.int .i64 t.stamp,vb,.int .i64 t.h] 0:=bI kp aO (CB ru (Nat.le_refl _))
  have w8:ah h8 w (eO x++judges (x.tasks.take i)) T:=aK kp aB fun c hc hg=>hGT c hg hc
  have ow8:Own (h.n+1) h8 T:=(bX kp gN fun c hc hg=>hGT c hg hc).1
  have hd8:∀ c∈F',c ∉ T:=fun c hc hT=>by
   rcases hF c hc with h1|h1|h1
   ·exact hGT c h1 hT
   ·cases h1
   ·have:=rw'.lt c hT
    simp only[aJ] at h1;omega
  rw[List.append_assoc,List.append_assoc,←Iw (fun t:Task=>t.stamp) htk] at r'
  clear ek kp hF ru ou rw' ow hGT
  (repeat' first|refine vs ?_|(refine br ?_ ?_<;>first|exact bx|intro _)|fail)
  all_goals first
   |exact⟨by omega,v',F',w,T,rfl,by omega,aI,r',o',by rw[aho htk (by omega)];exact w8,ow8,hd8⟩
   |skip
  refine iC (n:=h.n+1) (xs:=eO x++judges (x.tasks.take i)) (a:=Dm t) (G:=[]) aB ⟨rfl,rfl⟩ (by rw[List.append_nil];exact aY) aV rfl (by omega) (by omega) ?_
  intro w' h9 T' ek kp rT oT hT
  have e9:=ek _ (aI:Ext (h.push ⟨(x.cs v0 v1 v2 v3 v4 v5 v6 v7 v8 v9 v10),0,0⟩) _) (by simp)
  have n9:=kp.1
  have u9:ah h9 v' _ F':=aK kp aB hd8
  have ou9:Own (h.n+1) h9 F':=(bX kp gN hd8).1
  have hd9:∀ c∈F',c ∉ T':=fun c hc hTc=>by
   rcases hT c hTc with h1|h1|h1
   ·exact hd8 c hc h1
   ·cases h1
   ·have:=r'.lt c hc
    (try simp only[aJ] at h1);omega
  rw[List.append_assoc,←ahn htk (by omega)] at rT
  (repeat' first|refine vs ?_|fail)
  exact⟨by omega,v',F',w',T',rfl,by omega,e9,u9,ou9,rT,oT,hd9⟩
 have ei:i=x.tasks.length:=by omega
 subst ei
 rw[List.take_length] at ru rw'
 clear hml hjl hll hlw hi hge
 (repeat' first|refine vs ?_|refine gS ?_|fail)
 refine aL (JK (l:=x.st) aV aB) ?_
 rintro vL h8 ⟨e8,FL,qL,oL⟩
 have n8:=e8.1
 have hGL:∀ c∈G,c ∉ FL:=Cm ru oL (Nat.le_refl _)
 refine eG qL ?_
 have hsL:=qL.small
 refine aX (allT x.st).length (fun i vs h9=>∃ u G,vs=[u,.int .i64 (i:Int)]∧i≤(allT x.st).length∧Ext (h.push ⟨(x.cs v0 v1 v2 v3 v4 v5 v6 v7 v8 v9 v10),0,0⟩) h9∧ah h9 u ((eO x).map (·.id)++(x.cache.map (·.stamp)++(x.tasks.map (·.stamp)++((allT x.st).take i).map (·.stamp)))) G∧Own (h.n+1) h9 G∧ah h9 w (eO x++judges x.tasks) T∧ah h9 vL (allT x.st) FL∧(∀ c∈G,c ∉ T)∧(∀ c∈G,c ∉ FL)∧eZ (allT x.st) (fun _ t=>known x t.id t.stamp) i) ⟨u,G,rfl,Nat.zero_le _,aI,by simpa using(aB:ah h8 u _ G),aY,aB,qL,hGT,hGL,up0⟩ ?_
 clear e8 n8 oL hGL qL ru ou rw' ow hGT e7 n7
 rintro i vs h9 _ ⟨u,G,rfl,hi,e9,ru,ou,rw',rL,hGT,hGL,hu⟩
 have n9:=e9.1
 simp only[aJ] at n9
 simp only[g0,g1]
 have hml:=Iy (·.stamp) (allT x.st) i
 have hll:((eO x).map (·.id)++(x.cache.map (·.stamp)++(x.tasks.map (·.stamp)++((allT x.st).take i).map (·.stamp)))).length=(eO x).length+(x.cache.length+(x.tasks.length+(((allT x.st).take i).map (·.stamp)).length)):=by simp
 refine br (fun hlt=>?_) (fun hge=>?_)
 ·obtain⟨t,ht,-,htk⟩:=aU (show i < (allT x.st).length by omega)
  refine vs ?_
  refine dw rL ht rfl ?_
  rintro b o _ Fi a ⟨va,rfl,ra⟩ _
  (repeat' first|refine vs ?_|refine gS ?_|fail)
  refine iC (n:=h.n+1) (xs:=(eO x).map (·.id)++(x.cache.map (·.stamp)++(x.tasks.map (·.stamp)++((allT x.st).take i).map (·.stamp)))) (a:=t.stamp) (G:=[]) aB ⟨rfl,rfl⟩ (by rw[List.append_nil];exact aY) aV rfl (by omega) (by omega) ?_
  intro v' h8 F' ek kp r' o' hF
  have e8:=ek _ (aI:Ext (h.push ⟨(x.cs v0 v1 v2 v3 v4 v5 v6 v7 v8 v9 v10),0,0⟩) _) (by simp)
  have n8:=kp.1
  simp only[aJ] at n8
  have bt:Bk h8 h9.n [.int .i64 t.id,.int .i64 t.stamp,.int .i64 t.first,va] 0:=bI kp aO (CB ru (Nat.le_refl _))
  have w8:ah h8 w (eO x++judges x.tasks) T:=aK kp aB fun c hc hg=>hGT c hg hc
  have L8:ah h8 vL (allT x.st) FL:=aK kp aB fun c hc hg=>hGL c hg hc
  have hdT:∀ c∈F',c ∉ T:=fun c hc hT=>by
   rcases hF c hc with h1|h1|h1
   ·exact hGT c h1 hT
   ·cases h1
   ·have:=rw'.lt c hT
    simp only[aJ] at h1;omega
  have hdL:∀ c∈F',c ∉ FL:=fun c hc hT=>by
   rcases hF c hc with h1|h1|h1
   ·exact hGL c h1 hT
   ·cases h1
   ·have:=rL.lt c hT
    simp only[aJ] at h1;omega
  rw[List.append_assoc,List.append_assoc,List.append_assoc,←Iw (fun t:Trail=>t.stamp) htk] at r'
  clear ek kp hF ru ou rw' rL hGT hGL
  (repeat' first|refine vs ?_|((with_reducible refine aG DY ?_);(refine bC (Zn aB (aek (t:=t) (v:=va) (xP bt))) ?_ ?_<;>intro hn))|fail)
  all_goals first
   |exact pf fun k=>absurd (Uq.2 (k.1 t (List.mem_of_getElem? ht))) (by assumption)
   |exact⟨by omega,v',F',rfl,by omega,aI,r',o',w8,L8,hdT,hdL,upS hu ht (Uq.1 (by assumption))⟩
 have ei:i=(allT x.st).length:=by omega
 subst ei
 rw[List.take_length] at ru
 have hu:=jV hu
 change ah h9 u (GY x) G at ru
 have bw:Bk h9 h.n (x.cs v0 v1 v2 v3 v4 v5 v6 v7 v8 v9 v10) 0:=aO
 (repeat' first|refine vs ?_|((with_reducible refine aG D6 ?_);(refine bC (ZB ru (fun n=>aej (x:=x) (n:=n) (xP bw))) ?_ ?_<;>intro hn))|fail)
 ·refine pf fun k=>?_
  rename_i hn
  obtain⟨n,hn,hp⟩:=hn
  simp only[decide_eq_true_eq] at hp
  have:=k.2 n hn
  omega
 ·refine pt ⟨hu,fun n hn2=>?_⟩
  rename_i hn
  by_cases hlt:n < x.next
  ·exact hlt
  ·exact absurd ⟨n,hn2,by simp only[decide_eq_true_eq];omega⟩ hn
end Go.Proofs.YtcgjihfngdhjjaaGreat
end
