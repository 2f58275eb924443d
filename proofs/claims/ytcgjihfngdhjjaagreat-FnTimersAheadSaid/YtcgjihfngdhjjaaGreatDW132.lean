import Derived.Test.YtcgjihfngdhjjaaGreatDW43
import Derived.Test.YtcgjihfngdhjjaaGreatDK4
import Derived.Test.YtcgjihfngdhjjaaGreatDKW1
import Derived.Test.YtcgjihfngdhjjaaGreatDW121
section
set_option linter.unusedSimpArgs false
set_option linter.unusedVariables false
set_option maxHeartbeats 2000000
namespace Go.Proofs.YtcgjihfngdhjjaaGreat
open Go Go.Ab
section
def Sj (x0 x1:AV):Prog:=.op (.alloc [.str ⟨#[]⟩,.bool false,.int .i64 0,.str ⟨#[]⟩]) fun a=>Cl jA [x0,.int .i64 2] fun b=>.ite b (.op (.aS 1 5 Wy [(0,1,.int .i64 0),(1,1,.int .i64 1),(2,1,.int .i64 5),(3,1,.int .i64 200),(4,1,.int .i64 500)]) fun b=>Cl gI [x0,b] fun b=>.op (.build [.str ⟨#[]⟩,.bool false,.int .i64 0,.str ⟨#[]⟩] [(0,1,x1),(1,1,.bool true),(2,1,b)]) fun b=>.op (.st 4 a b) fun _=>.fin [.cn 4 a]) (.op (.aS 1 4 [.str ⟨#[]⟩,.str ⟨#[]⟩,.str ⟨#[]⟩,.str ⟨#[]⟩] [(0,1,.str ⟨#[97]⟩),(1,1,.str ⟨#[98]⟩),(2,1,.str ⟨#[111,107]⟩),(3,1,.str ⟨#[]⟩)]) fun b=>Cl iR [x0,b] fun b=>.op (.build [.str ⟨#[]⟩,.bool false,.int .i64 0,.str ⟨#[]⟩] [(0,1,x1),(3,1,b)]) fun b=>.op (.st 4 a b) fun _=>.fin [.cn 4 a])
theorem aeI (x0 x1:AV):CC Tryz.prog rU [x0,x1] (Sj x0 x1):=cc Tryz.func228
def Rm (x0:AV):Prog:=.op (.aS 4 0 [] []) fun a=>.op (.aS 1 5 ai0 [(0,1,.str ⟨#[99,111,100,101]⟩),(1,1,.str ⟨#[102,97,105,108,101,100]⟩),(2,1,.str ⟨#[107]⟩),(3,1,.str ⟨#[112,97,116,104]⟩),(4,1,.str ⟨#[117,115,101,114]⟩)]) fun b=>Ln 0 b fun c=>.loop [a,.int .i64 0] (fun a=>Bn .lss (g a 1) c fun c=>.ite c (Ix 1 b (g a 1) fun b=>.op (.ld1 b) fun b=>Cl jA [x0,.int .i64 4] fun c=>.scope (.ite c (Cl rU [x0,b] fun b=>.op (.aS 4 1 [.str ⟨#[]⟩,.bool false,.int .i64 0,.str ⟨#[]⟩] [(0,4,b)]) fun b=>.op (.app 4 48 (g a 0) b) fun a=>.leaf 0 [a]) (.leaf 0 [g a 0])) (fun b=>Bn .add (g a 1) (.int .i64 1) fun a=>.leaf 0 [g b 0,a]) fun a b=>aC a 1 (.leaf 1 b) .bad) (.leaf 2 [g a 0,g a 1])) fun a b=>aC a 1 (.leaf 1 b) (aC a 2 (.fin [.val (g b 0)]) .bad)
theorem adO (x0:AV):CC Tryz.prog wD [x0] (Rm x0):=cc Tryz.func226 [0,3,7,8,9] (fun _=>[])
def Rk (x0:AV):Prog:=.op (.alloc jT) fun a=>Cl fP [x0,.int .i64 5] fun b=>Bn .add (.int .i64 1) b fun b=>Cl fP [x0,.int .i64 9] fun c=>Bn .add (.int .i64 1) c fun c=>Cl fP [x0,.int .i64 9] fun d=>Cl jA [x0,.int .i64 4] fun e=>Cl wD [x0] fun f=>.op (.build jT [(0,1,b),(1,1,c),(2,1,d),(4,1,e),(5,1,f)]) fun b=>.op (.alloc jT) fun c=>.op (.st 6 c b) fun _=>.op (.fad 2 c) fun b=>.op (.ld1 b) fun d=>.op (.aS 1 4 [.int .i64 0,.int .i64 0,.int .i64 0,.int .i64 0] [(0,1,.int .i64 0),(1,1,.int .i64 1),(2,1,.int .i64 5),(3,1,.int .i64 20)]) fun e=>Cl gI [x0,e] fun e=>.chk (.ld1 b) d (Bn .add d e fun b=>Sg 3 c b fun _=>Ld 6 c fun b=>.op (.st 6 a b) fun _=>.fin [.cn 6 a])
theorem adM (x0:AV):CC Tryz.prog yM [x0] (Rk x0):=cc Tryz.func161 [] (fun r=>if r=2 then[(0,[]),(1,[]),(2,[]),(3,[]),(4,[1]),(5,[]),(6,[]),(7,[])] else[])
end
theorem nD {α:Type} [Sz α] {m:Nat}:∀ {l:List α},(∀ x∈l,Sz.sz x≤m)→szs l≤l.length * m
 |[],_=>by simp[szs]
 |x::l,h=>by
  have:=nD (l:=l) fun y hy=>h y (by simp[hy])
  have:=h x (by simp)
  simp only[szs,List.length_cons,Nat.add_mul,Nat.one_mul];omega
theorem rg {x:Int} (h0: -4000000000≤x) (h1:x≤4000000000):Cel.ok x:=⟨by omega,by omega⟩
theorem okS {s:ByteArray} (h:s.size≤1000):Cel.ok s:=Nat.le_trans h (by decide)
def aD (x:Attr):Prop:=Cel.ok x∧Sz.sz x≤100
def asD (l:List Attr):Prop:=l.length≤6∧∀ x∈l,aD x
def mi (k x:Int):Prop:=-k≤x∧x≤k
def sD (x:Span):Prop:=(mi 2000000 x.trace∧mi 2000000 x.id∧mi 2000000 x.start∧mi 4000000 x.fin)∧asD x.attrs
theorem R7 {h:AH} {c:Nat} {s:ByteArray} (cu:Cur h c) (hs:s.size≤50):bq Tryz.prog rU [.ptr c 0,.str s] h (DrX Attr h c aD):=by
 have lc:=cu.lt
 refine aeI _ _ ?_
 unfold Sj
 (repeat' first|refine vs ?_|((with_reducible refine aG jA ?_);(refine aL (uG aT (by omega) (by omega)) ?_;rintro _ h2 ⟨b,rfl,k2,cu2⟩;have n2:=k2.1;(try simp only[aJ,aN] at n2);cases b))|((with_reducible refine aG gI ?_);(refine aL (Bj aT aO aV (by rfl) (by decide) (by decide) Cj) ?_;rintro _ h2 ⟨x,rfl,hx0,hx1,k2,cu2⟩;have n2:=k2.1;(try simp only[aJ,aN] at n2)))|((with_reducible refine aG iR ?_);(refine aL (yS aT aO aV (by rfl) (by decide) (by decide) wY) ?_;rintro _ h2 ⟨x,rfl,hx0,k2,cu2⟩;have n2:=k2.1;(try simp only[aJ,aN] at n2)))|fail)
 ·exact⟨rfl,_,rfl,⟨s,false,0,x⟩,_,[],rfl,⟨rfl,rfl⟩,Own.nil,bQ,aT,⟨okS (s:=s) (by omega),rg (x:=0) (by omega) (by omega),okS (s:=x) (by omega)⟩,by show s.size+x.size≤100;omega⟩
 ·exact⟨rfl,_,rfl,⟨s,true,x,⟨#[]⟩⟩,_,[],rfl,⟨rfl,rfl⟩,Own.nil,bQ,aT,⟨okS (s:=s) (by omega),rg (x:=x) (by omega) (by omega),okS (s:=⟨#[]⟩) (by decide)⟩,by show s.size+0≤100;omega⟩
theorem Ku {h:AH} {c:Nat} (cu:Cur h c):bq Tryz.prog wD [.ptr c 0] h (DrS Attr h c asD):=by
 have lc:=cu.lt
 refine adO _ ?_
 unfold Rm
 obtain⟨re,oe⟩:=gu (h:=h) (α:=Attr) (w:=4) rfl
 obtain⟨ks,rk,hl,hk⟩:=L9 (h:=h.push ⟨[],4,0⟩) (cs:=[AV.str ⟨#[99,111,100,101]⟩,AV.str ⟨#[102,97,105,108,101,100]⟩,AV.str ⟨#[107]⟩,AV.str ⟨#[112,97,116,104]⟩,AV.str ⟨#[117,115,101,114]⟩]) wY
 have rk:=kX hl (by decide) rk
 simp only[List.length_cons,List.length_nil,Nat.zero_add,Nat.reduceAdd] at hl rk
 refine vs ?_
 refine aX ks.length (fun i vs h1=>∃ u l G,vs=[u,.int .i64 (i:Int)]∧i≤ks.length∧Kp h h1 [c]∧Cur h1 c∧ah h1 u l G∧Own h.n h1 G∧h.n+1 ∉ G∧ah h1 (.sl (h.n+1) 0 5) ks [h.n+1]∧l.length≤i∧∀ x∈l,aD x) ⟨_,[],[h.n],rfl,Nat.zero_le _,bQ,aT,dU re,(oe h.n (Nat.le_refl _)).ext ((Ext.refl _).push _) (by simp),by simp,rk,Nat.le_refl _,by simp⟩ ?_
 clear re oe rk
 rintro i vs h1 _ ⟨u,l,G,rfl,hi,k1,cu1,ru,ou,hG,rk,hll,hla⟩
 have n1:=k1.1
 have lc1:=cu1.lt
 simp only[g0,g1]
 (repeat' first|refine vs ?_|(refine br ?_ ?_<;>first|exact bx|intro _)|((with_reducible refine aG jA ?_);(refine aL (uG aT (by omega) (by omega)) ?_;rintro _ h2 ⟨b,rfl,k2,cu2⟩;have n2:=k2.1;(try simp only[aJ,aN] at n2);cases b))|((with_reducible refine bB ?_);(((refine ixg ?_;intro _ _));rintro _ _ _ _ _ ⟨rfl,rfl⟩ _))|fail)
 ·exact⟨by omega,_,_,_,rfl,by omega,bQ,cu2,aB,aY,hG,aK k2 rk (gJ (iL (by omega))),by omega,hla⟩
 ·rename_i x hx _ _ _ _
  have hxs:=hk x (List.mem_of_getElem? hx)
  refine aL (R7 aT hxs) ?_
  rintro _ h3 ⟨y,_,_,rfl,⟨rfl,rfl⟩,-,k3,cu3,hy⟩
  have n3:=k3.1
  refine vs ?_
  have ru3:ah h3 u l G:=aB
  have ou3:Own h.n h3 G:=aY
  have rk3:ah h3 (.sl (h.n+1) 0 5) ks [h.n+1]:=aK k3 (aK k2 rk (gJ (iL (by omega)))) (gJ (iL (by omega)))
  have kk3:Kp h h3 [c]:=bQ
  clear k3 ru ou rk k2 k1
  refine iC (n:=h.n) (a:=y) (cs:=y.cs) (G:=[]) ru3 ⟨rfl,rfl⟩ (by rw[List.append_nil];exact ou3) (by omega) rfl (by omega) (by omega) ?_
  intro u' h4 F' _ k4 r4 o4 w4
  have n4:=k4.1
  (try simp only[aJ] at n4)
  refine vs ?_
  refine⟨by omega,_,_,_,rfl,by omega,uQ k4 kk3 fun b hb=>(ou3.2 b hb).1,w9 k4 cu3 fun b hb=>by have:=(ou3.2 b hb).1;omega,r4,o4,?_,aK k4 rk3 (fun b hb hm=>hG (List.mem_singleton.1 hb▸hm)),by simp only[List.length_append,List.length_singleton];omega,?_⟩
  ·intro hm
   rcases w4 _ hm with q|q|q
   ·exact hG q
   ·exact absurd q List.not_mem_nil
   ·have:=rk3.lt _ (List.mem_singleton.2 rfl);omega
  ·intro z hz
   rcases List.mem_append.1 hz with q|q
   ·exact hla z q
   ·rw[List.mem_singleton.1 q];exact hy
 ·exact⟨rfl,_,rfl,_,_,ru,ou,k1,cu1,by omega,hla⟩
theorem QZ {h:AH} {c:Nat} (cu:Cur h c):bq Tryz.prog yM [.ptr c 0] h (DrX Span h c sD):=by
 have lc:=cu.lt
 refine adM _ ?_
 unfold Rk
 (repeat' first|refine vs ?_|((with_reducible refine aG fP ?_);(refine aL (lZ aT (by omega) (by omega)) ?_;rintro _ h2 ⟨x,rfl,hx0,hx1,k2,cu2⟩;have n2:=k2.1;(try simp only[aJ,aN] at n2)))|((with_reducible refine aG jA ?_);(refine aL (uG aT (by omega) (by omega)) ?_;rintro _ h2 ⟨b,rfl,k2,cu2⟩;have n2:=k2.1;(try simp only[aJ,aN] at n2)))|((with_reducible refine aG gI ?_);(refine aL (Bj aT aO aV (by rfl) (by decide) (by decide) Cj) ?_;rintro _ h2 ⟨x,rfl,hx0,hx1,k2,cu2⟩;have n2:=k2.1;(try simp only[aJ,aN] at n2)))|((with_reducible refine aG wD ?_);(refine aL (Ku aT) ?_;rintro u h2 ⟨l,G,ru,ou,k2,cu2,hl⟩;have n2:=k2.1;(try simp only[aJ,aN] at n2);))|fail)
 exact⟨rfl,_,rfl,⟨_,_,_,_,_,l⟩,_,_,rfl,⟨u,rfl,aB⟩,aY,bQ,aT,⟨by dsimp only[mi];omega,hl⟩⟩
end Go.Proofs.YtcgjihfngdhjjaaGreat
end
section
set_option linter.unusedSimpArgs false
set_option linter.unusedVariables false
namespace Go.Proofs.YtcgjihfngdhjjaaGreat
open Go Go.Ab
theorem Ws {a:Attr} (h:pJ a):Cel.ok a∧Sz.sz a≤28:=by
 obtain⟨⟨-,h1,h2⟩,h3⟩:=h
 have ht:(0≤a.n∧a.n≤2147483647)∧a.text.size≤20:=by
  rcases h3 with⟨-,h4,h5⟩|⟨-,h4,-,h5⟩
  ·rw[h5];exact⟨h4,by decide⟩
  ·exact⟨by omega,by omega⟩
 exact⟨⟨okS (by omega),rg (by omega) (by omega),okS (by omega)⟩,by show a.key.size+a.text.size≤28;omega⟩
theorem Cb {s:Span} (h:sV s):Cel.ok s∧Sz.sz s≤120:=by
 obtain⟨h1,h2,h3,⟨h4,h5⟩,-⟩:=h
 have ha:∀ a∈s.attrs,pJ a:=fun a ha=>by
  obtain⟨i,hi⟩:=List.mem_iff_getElem?.1 ha
  exact(h4 i a hi).1
 have hz:=nD (m:=28) fun a hm=>(Ws (ha a hm)).2
 exact⟨⟨rg (by omega) (by omega),rg (by omega) (by omega),rg (by omega) (by omega),rg (by omega) (by omega),fun a hm=>(Ws (ha a hm)).1⟩,by show s.attrs.length+szs s.attrs≤120;omega⟩
theorem zD {y:Itm} (h:kZ y):Cel.ok y∧Sz.sz y≤120:=⟨⟨trivial,(Cb h.2).1⟩,(Cb h.2).2⟩
theorem aiy {p:Pol} (h:jS p):(1≤p.kind∧p.kind≤9)∧(0≤p.n∧p.n≤2147483647)∧p.key.size≤8∧p.text.size≤20:=by
 have e:(⟨#[]⟩:ByteArray).size=0:=rfl
 unfold jS lF at h
 rcases h with⟨h1,⟨h2,h3,h4⟩,-⟩|⟨h1,h2,h3,h4,-⟩|⟨h1,h2,⟨-,h3,h5⟩,⟨-,h4⟩,-⟩|⟨h1,h2,⟨-,h3,h5⟩,h4,-⟩|⟨h1,⟨h2,h3,h4⟩,-⟩|⟨h1,⟨h2,h3,h4⟩,-⟩
 ·rw[h3,h4,e];omega
 ·rw[h3,h4,e];omega
 ·omega
 ·rw[h4,e];omega
 ·rw[h3,h4,e];omega
 ·rw[h3,h4,e];omega
theorem VK:∀ {l:List Pol},(∀ y∈l,(Sz.sz y:Int)+1≤29 * dZ y)→((l.length+szs l:Nat):Int)≤29 * bD dZ l
 |[],_=>by simp[bD,szs]
 |y::l,h=>by
  have h1:=h y (by simp)
  have h2:=VK (l:=l) fun z hz=>h z (by simp[hz])
  simp only[bD,szs,List.length_cons];omega
theorem ajl (p:Pol):∀ d:Int,jF d p→Cel.ok p∧(Sz.sz p:Int)+1≤29 * dZ p:=by
 refine sN (p:=fun p=>∀ d:Int,jF d p→Cel.ok p∧(Sz.sz p:Int)+1≤29 * dZ p) ?_ p
 intro x ih d h
 obtain⟨-,hh,hy⟩:=uK.1 h
 obtain⟨h1,h2,h3,h4⟩:=aiy hh
 have hs:=VK fun y hm=>(ih y hm _ (hy y hm)).2
 refine⟨?_,?_⟩
 ·have ho:∀ y∈x.l,Cel.ok y:=fun y hm=>(ih y hm _ (hy y hm)).1
  cases x with
  |mk k n s t l=>exact⟨⟨by have:1≤k∧k≤9:=h1;omega,by have:1≤k∧k≤9:=h1;omega⟩,⟨by have:0≤n∧n≤2147483647:=h2;omega,by have:0≤n∧n≤2147483647:=h2;omega⟩,Nat.le_trans h3 (by decide),Nat.le_trans h4 (by decide),Pol.Md.2 ho⟩
 ·rw[Pol.Ip,zH];omega
theorem Wi {c:iQ} (h:nI c):Cel.ok c∧Sz.sz c≤400:=by
 obtain⟨h1,h2,h3,h4,h5,h6,h7,h8,h9⟩:=h
 have hp:=ajl _ _ h8
 exact⟨⟨rg (by omega) (by omega),rg (by omega) (by omega),rg (by omega) (by omega),rg (by omega) (by omega),rg (by omega) (by omega),rg (by omega) (by omega),rg (by omega) (by omega),hp.1⟩,by show Sz.sz c.rule≤400;omega⟩
theorem Ng (l:List Ab.Timer):szs l=0:=by
 induction l with
 |nil=>rfl
 |cons a l ih=>show 0+szs l=0;omega
theorem MS:∀ l:List (List Ab.Timer),szs l=l.flatten.length
 |[]=>rfl
 |a::l=>by
  have e:Sz.sz a=a.length+szs a:=rfl
  simp only[szs,List.flatten_cons,List.length_append,e,Ng,MS l];omega
theorem BP {w:bn} (h:WhI w):Sz.sz w≤40:=by
 have e:Sz.sz w=(w.near.length+szs w.near)+(w.far.length+szs w.far)+(w.rest.length+szs w.rest):=rfl
 have h1:=h.nl;have h2:=h.fl;have h3:=h.len
 have e2:(timers w).length=w.near.flatten.length+w.far.flatten.length+w.rest.length:=by unfold timers;simp only[List.length_append];try omega
 rw[Ng,MS,MS] at e
 omega
section
variable{x:Wld} {n M:Nat}
theorem af9 (h:WI x) (hn:x.next≤1000000) {s:aR} (hs:s∈x.st):Cel.ok s∧Sz.sz s≤28000:=by
 obtain⟨i,hi⟩:=List.mem_iff_getElem?.1 hs
 obtain⟨h1,h2,-⟩:=h.st.2.1 i s hi
 have hm:∀ t∈s.l,t∈allT x.st:=fun t ht=>zk.2 ⟨i,s,hi,ht⟩
 have ht:∀ t∈s.l,Cel.ok t∧Sz.sz t≤1815:=fun t hq=>by
  obtain⟨⟨a1,a2,a3,a4,a5⟩,-⟩:=h2 t hq
  have b1:=(h.iX t (hm t hq)).1
  have b2:=h.YM (hm t hq)
  have hz:=nD (m:=120) fun q hq=>(Cb (a1 q hq).1).2
  exact⟨⟨rg (by omega) (by omega),rg (by omega) (by omega),rg (by omega) (by omega),fun q hq=>(Cb (a1 q hq).1).1⟩,by show t.spans.length+szs t.spans≤1815;omega⟩
 have hl:s.l.length≤15:=by
  have h12:=GX (f:=dW) (m:=12) (by decide) (l:=s.l) fun t hq=>QW (h2 t hq).1
  have h3:bD dW s.l≤held x.st:=by
   have:=Va (l:=x.st) (y':=⟨-1,[]⟩) hi
   have h0:=Mg (x.st.set i ⟨-1,[]⟩)
   have e:bD dW ([]:List Trail)=0:=rfl
   rw[this] at h0
   have e2:bD dW (⟨-1,[]⟩:aR).l=0:=rfl
   omega
  have:=h.used;have:=h.budget;have:=h.conf.2.2.1
  omega
 have hz:=nD (m:=1815) fun t hq=>(ht t hq).2
 exact⟨⟨rg (by omega) (by omega),fun t hq=>(ht t hq).1⟩,by show s.l.length+szs s.l≤28000;omega⟩
theorem Uz:Cel.ok CV:=⟨rg (by decide) (by decide),rg (by decide) (by decide),rg (by decide) (by decide),rg (by decide) (by decide),fun a ha=>(by cases ha)⟩
theorem ahK (h:WI x) (hn:x.next≤1000000) (hd:x.aF.length≤1000000) {t:Task} (ht:t∈x.tasks):Cel.ok t:=by
 obtain⟨k,hk⟩:=List.mem_iff_getElem?.1 ht
 obtain⟨⟨⟨a1,a2,-,a3⟩,a4⟩,a5⟩:=h.tasks k t hk
 rcases a3 with e|⟨b1,b2,b3,b4,b5⟩|⟨b1,b2,b3,b4,b5,b6⟩
 ·rw[e];exact⟨rg (by decide) (by decide),rg (by decide) (by decide),Uz,rg (by decide) (by decide),rg (by decide) (by decide),fun a ha=>(by cases ha),rg (by decide) (by decide)⟩
 all_goals
  have hh:t.h≤1000000:=by
   have q:=a4 (by omega)
   unfold mO at q
   cases hg:x.aF[t.h.toNat]? with
   |none=>rw[hg] at q;exact q.elim
   |some d=>have:=(List.getElem?_eq_some_iff.1 hg).1;omega
 ·have e:t.hand=[]:=List.length_eq_zero_iff.1 (by omega)
  refine⟨rg (by omega) (by omega),rg (by omega) (by omega),(Cb b3).1,?_,?_,by rw[e];exact fun a ha=>(by cases ha),rg (by omega) (by omega)⟩
  ·rcases b5 with q|q
   ·exact rg (by omega) (by omega)
   ·exact rg (by omega) (by omega)
  ·rcases b5 with q|q
   ·exact rg (by omega) (by omega)
   ·exact rg (by omega) (by omega)
 ·exact⟨rg (by omega) (by omega),rg (by omega) (by omega),by rw[b4];exact Uz,rg (by omega) (by omega),rg (by omega) (by omega),fun a ha=>(zD (b3.1 a ha).1).1,rg (by omega) (by omega)⟩
theorem ahJ (h:WI x) {t:Task} (ht:t∈x.tasks) (hz:tz M t):Sz.sz t≤M+25000:=by
 obtain⟨k,hk⟩:=List.mem_iff_getElem?.1 ht
 obtain⟨⟨⟨a1,a2,-,a3⟩,a4⟩,a5⟩:=h.tasks k t hk
 have hi:∀ y∈t.hand,kZ y:=fun y hy=>by
  rcases a3 with e|⟨b1,b2,b3,b4,b5⟩|⟨b1,b2,b3,b4,b5,b6⟩
  ·rw[e] at hy;cases hy
  ·rw[List.length_eq_zero_iff.1 (show t.hand.length=0 by omega)] at hy;cases hy
  ·exact(b3.1 y hy).1
 have h2:=nD (m:=120) fun y hy=>(zD (hi y hy)).2
 have h3:=hz.1;have h4:=hz.2
 show Sz.sz t.s+(t.hand.length+szs t.hand)≤M+25000
 omega
theorem ajK {α:Type} [Sz α] {l:List α} (h:∀ x∈l,Sz.sz x≤0):szs l=0:=by
 have:=nD h;omega
theorem ahF (h:WI x) (hn:x.next≤1000000) {v:bO} (hv:v∈x.cache):Cel.ok v:=by
 obtain⟨i,hi⟩:=List.mem_iff_getElem?.1 hv
 have h1:=h.cst v hv
 obtain⟨h2,h3,-⟩:=h.cache.1 i v hi
 exact⟨rg (by omega) (by omega),rg (by omega) (by omega)⟩
theorem RI.fit (h:RI n M x) (hn:n≤200) (hM:M≤2000):Cel.ok x∧Sz.sz x≤1000000:=by
 have hI:=h.wi
 have hx:=h.nx
 have hnx:x.next≤1000000:=by omega
 have hd:=h.dd
 have ho:=h.od
 have hdu:=h.du
 have hcf:=hI.conf
 have hc:=Wi hcf
 have hst:=fun s hs=>af9 hI hnx (s:=s) hs
 refine⟨⟨hc.1,trivial,fun s hs=>(hst s hs).1,trivial,⟨trivial,trivial,trivial,trivial⟩,fun v hv=>ahF hI hnx hv,trivial,⟨trivial,fun _ _ _ _=>⟨trivial,trivial,trivial⟩,fun _ _ _ _=>⟨trivial,trivial,trivial⟩,fun _ _=>⟨trivial,trivial,trivial⟩⟩,fun _ _=>⟨trivial,trivial,trivial⟩,fun y hy=>(zD (hI.queue y hy)).1,fun y hy=>(zD (hI.out y hy)).1,fun t ht=>ahK hI hnx (by omega) ht,fun d hd=>⟨trivial,trivial,(h.ds d hd).2,trivial,trivial,trivial,trivial,trivial,trivial,trivial,trivial,trivial,trivial⟩,rg (by have:=hI.next;omega) (by omega)⟩,?_⟩
 have z1:=nD (m:=28000) fun s hs=>(hst s hs).2
 have z2:szs x.cache=0:=ajK fun _ _=>Nat.le_refl _
 have z3:=BP (iw.1 hI.w)
 have z4:=Ng x.due
 have z5:=nD (m:=120) fun y hy=>(zD (hI.queue y hy)).2
 have z6:=nD (m:=120) fun y hy=>(zD (hI.out y hy)).2
 have z7:=nD (m:=M+25000) fun t ht=>ahJ (M:=M) hI ht (h.ts t ht)
 have z8:szs x.aF≤x.aF.length * M:=nD fun d hd=>(h.ds d hd).1
 have z9:x.aF.length * M≤200 * 2000:=Nat.mul_le_mul (by omega) hM
 have l1:=hI.stl;have l2:=hI.cache.2;have l3:=hI.ql;have l4:=hI.tl
 obtain⟨c1,-,-,c4,c5,-⟩:=hcf
 have hc2:=hc.2
 rw[l4] at z7
 show Sz.sz x.c+(x.st.length+szs x.st)+(x.cache.length+szs x.cache)+Sz.sz x.w+(x.due.length+szs x.due)+(x.queue.length+szs x.queue)+(x.out.length+szs x.out)+(x.tasks.length+szs x.tasks)+(x.aF.length+szs x.aF)≤1000000
 omega
end
end Go.Proofs.YtcgjihfngdhjjaaGreat
end
