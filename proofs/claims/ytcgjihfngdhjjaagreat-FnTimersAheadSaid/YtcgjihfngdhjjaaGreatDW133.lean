import Derived.Test.YtcgjihfngdhjjaaGreatDW51
import Derived.Test.YtcgjihfngdhjjaaGreatDW9
import Derived.Test.YtcgjihfngdhjjaaGreatDW46
import Derived.Test.YtcgjihfngdhjjaaGreatDKW1
set_option linter.unusedSimpArgs false
set_option linter.unusedVariables false
set_option maxHeartbeats 2000000
namespace Go.Proofs.YtcgjihfngdhjjaaGreat
open Go Go.Ab
section
def Rh (x0 x1:AV):Prog:=.op (.alloc mq) fun a=>.op (.aS 1 10 Vp [(0,1,.int .i64 1),(1,1,.int .i64 2),(2,1,.int .i64 3),(3,1,.int .i64 4),(4,1,.int .i64 5),(5,1,.int .i64 6),(6,1,.int .i64 6),(7,1,.int .i64 7),(8,1,.int .i64 8),(9,1,.int .i64 9)]) fun b=>Cl gI [x0,b] fun b=>.op (.build mq [(0,1,b)]) fun b=>.op (.alloc mq) fun c=>.op (.st 5 c b) fun _=>Bn .eql x1 (.int .i64 1) fun b=>Gf b true 0 c fun d=>.gop b true (.bin 0 .geq d (.int .i64 7)) fun d=>Pk b d (.bool false) fun b=>.scope (.ite b (Cl fP [x0,.int .i64 6] fun a=>Bn .add (.int .i64 1) a fun a=>Sg 0 c a fun _=>.leaf 0 []) (.leaf 0 [])) (fun _=>Lg 0 c fun b=>Bn .eql b (.int .i64 3) fun d=>.scope (.ite d (.op (.aS 1 4 [.int .i64 0,.int .i64 0,.int .i64 0,.int .i64 0] [(0,1,.int .i64 0),(1,1,.int .i64 1),(2,1,.int .i64 5),(3,1,.int .i64 20)]) fun a=>Cl gI [x0,a] fun a=>Sg 1 c a fun _=>.leaf 0 [.tup [],.tup []]) (Bn .eql b (.int .i64 4) fun a=>.scope (.ite a (Cl qB [x0] fun a=>Sg 2 c a fun _=>.op (.aS 1 3 [.str ⟨#[]⟩,.str ⟨#[]⟩,.str ⟨#[]⟩] [(0,1,.str ⟨#[97]⟩),(1,1,.str ⟨#[98]⟩),(2,1,.str ⟨#[111,107]⟩)]) fun a=>Cl iR [x0,a] fun a=>Sg 3 c a fun _=>.leaf 0 [.tup [],.tup []]) (Bn .eql b (.int .i64 5) fun a=>.scope (.ite a (Cl qB [x0] fun a=>Sg 2 c a fun _=>.op (.aS 1 4 [.int .i64 0,.int .i64 0,.int .i64 0,.int .i64 0] [(0,1,.int .i64 0),(1,1,.int .i64 1),(2,1,.int .i64 200),(3,1,.int .i64 500)]) fun a=>Cl gI [x0,a] fun a=>Sg 1 c a fun _=>.leaf 0 [.tup [],.tup []]) (Bn .eql b (.int .i64 7) fun a=>.scope (.ite a (.leaf 0 [a]) (Bn .eql b (.int .i64 8) fun a=>.leaf 0 [a])) (fun a=>.scope (.ite (g a 0) (Cl fP [x0,.int .i64 2] fun a=>Bn .add (.int .i64 1) a fun a=>.loop [a] (fun a=>Bn .gtr (g a 0) (.int .i64 0) fun b=>.ite b (Bn .sub x1 (.int .i64 1) fun b=>Cl rP [x0,b] fun b=>.op (.alloc mq) fun d=>.op (.st 5 d b) fun _=>Lg 4 c fun b=>Ld 5 d fun d=>.op (.aS 5 1 mq [(0,5,d)]) fun d=>.op (.app 5 72 b d) fun b=>Sg 4 c b fun _=>Bn .sub (g a 0) (.int .i64 1) fun a=>.leaf 0 [a]) (.leaf 3 [g a 0])) fun a b=>aC a 1 (.leaf 1 b) (aC a 3 (.leaf 0 [g b 0]) .bad)) (Bn .eql b (.int .i64 9) fun a=>.scope (.ite a (Bn .sub x1 (.int .i64 1) fun a=>Cl rP [x0,a] fun a=>.op (.alloc mq) fun b=>.op (.st 5 b a) fun _=>Lg 4 c fun a=>Ld 5 b fun b=>.op (.aS 5 1 mq [(0,5,b)]) fun b=>.op (.app 5 72 a b) fun a=>Sg 4 c a fun _=>.leaf 0 []) (.leaf 0 [])) (fun _=>.leaf 0 [.tup []]) fun a b=>aC a 1 (.leaf 1 b) .bad)) (fun b=>.leaf 0 [g b 0,g a 0]) fun a b=>aC a 1 (.leaf 1 b) .bad) fun a b=>aC a 1 (.leaf 1 b) .bad)) (fun a=>.leaf 0 [g a 0,g a 1]) fun a b=>aC a 1 (.leaf 1 b) .bad)) (fun a=>.leaf 0 [g a 0,g a 1]) fun a b=>aC a 1 (.leaf 1 b) .bad)) (fun _=>Ld 5 c fun b=>.op (.st 5 a b) fun _=>.fin [.cn 5 a]) fun a b=>aC a 1 (.leaf 1 b) .bad) fun a b=>aC a 1 (.leaf 1 b) .bad
theorem adJ (x0 x1:AV):CC Tryz.prog rP [x0,x1] (Rh x0 x1):=cc Tryz.func207 [0,1,4,5,6,25,50] (fun _=>[])
def Ql (x0:AV):Prog:=.op (.alloc zy) fun a=>Cl fP [x0,.int .i64 3] fun b=>Bn .add (.int .i64 1) b fun b=>.op (.aS 1 4 [.int .i64 0,.int .i64 0,.int .i64 0,.int .i64 0] [(0,1,.int .i64 1),(1,1,.int .i64 2),(2,1,.int .i64 3),(3,1,.int .i64 9)]) fun c=>Cl gI [x0,c] fun c=>.op (.aS 1 4 [.int .i64 0,.int .i64 0,.int .i64 0,.int .i64 0] [(0,1,.int .i64 40),(1,1,.int .i64 60),(2,1,.int .i64 90),(3,1,.int .i64 190)]) fun d=>Cl gI [x0,d] fun d=>Cl fP [x0,.int .i64 4] fun e=>Bn .add (.int .i64 1) e fun e=>Cl fP [x0,.int .i64 3] fun f=>Bn .add (.int .i64 1) f fun f=>Cl fP [x0,.int .i64 3] fun i=>.op (.aS 1 4 [.int .i64 0,.int .i64 0,.int .i64 0,.int .i64 0] [(0,1,.int .i64 0),(1,1,.int .i64 1),(2,1,.int .i64 2),(3,1,.int .i64 4)]) fun j=>Cl gI [x0,j] fun j=>Cl rP [x0,.int .i64 3] fun k=>.op (.build zy [(0,1,b),(1,1,c),(2,1,d),(3,1,e),(4,1,f),(5,1,i),(6,1,j),(7,5,k)]) fun b=>.op (.st 12 a b) fun _=>.fin [.cn 12 a]
theorem acK (x0:AV):CC Tryz.prog Kn [x0] (Ql x0):=cc Tryz.func131
end
theorem wO {lo hi:Int} {cs:List AV} (h:∀ x∈cs,∃ i:Int,x= .int .i64 i∧(lo≤i∧i≤hi):=by(repeat(first|exact fun _ h=>absurd h List.not_mem_nil|(refine VW ⟨by decide,by decide⟩ ?_)))):∀ x∈cs,∃ i:Int,x= .int .i64 i∧(lo≤i∧i≤hi):=h
theorem wo (lo hi:Int) {h:AH} {c b n:Nat} {cs:List AV} (cu:Cur h c) (a:Bk h b cs 1) (hb: ¬ c=b) (hn:cs.length=n) (h0:0 < n) (hs:n < 1000) (hx:∀ x∈cs,∃ i:Int,x= .int .i64 i∧(lo≤i∧i≤hi)):bq Tryz.prog gI [.ptr c 0,.sl b 0 n] h (fun u h'=>∃ x:Int,u= .int .i64 x∧lo≤x∧x≤hi∧Kp h h' [c]∧Cur h' c):=by
 obtain⟨xs,r,hl,hx⟩:=LJ (h:=h) hx
 refine(Kw cu (Cy a r (by omega) (by omega)) (iL hb) (by omega)).mono ?_
 rintro u h' ⟨x,rfl,hm,k,cu⟩
 exact⟨x,rfl,(hx x hm).1,(hx x hm).2,k,cu⟩
theorem VA {s:ByteArray} {cs:List AV} {P:ByteArray→Prop} (h0:P s) (h:∀ x∈cs,∃ s:ByteArray,x= .str s∧P s):∀ x∈AV.str s::cs,∃ s:ByteArray,x= .str s∧P s:=List.forall_mem_cons.2 ⟨⟨s,rfl,h0⟩,h⟩
theorem UE {h:AH} {P:ByteArray→Prop}:∀ {cs:List AV},(∀ x∈cs,∃ s:ByteArray,x= .str s∧P s)→∃ xs:List ByteArray,bR h xs cs []∧xs.length=cs.length∧∀ i∈xs,P i
 |[],_=>⟨[],⟨rfl,rfl⟩,rfl,by simp⟩
 |c::cs,hc=>by
  obtain⟨xs,r,hl,hx⟩:=UE (h:=h) (cs:=cs) fun x hx=>hc x (by simp[hx])
  obtain⟨i,rfl,h0⟩:=hc c (by simp)
  exact⟨i::xs,⟨[.str i],cs,[],[],rfl,rfl,⟨rfl,rfl⟩,r⟩,by simp[hl],List.forall_mem_cons.2 ⟨h0,hx⟩⟩
theorem EH (P:ByteArray→Prop) {h:AH} {c b n:Nat} {cs:List AV} (cu:Cur h c) (a:Bk h b cs 1) (hb: ¬ c=b) (hn:cs.length=n) (h0:0 < n) (hs:n < 1000) (hx:∀ x∈cs,∃ s:ByteArray,x= .str s∧P s):bq Tryz.prog iR [.ptr c 0,.sl b 0 n] h (fun u h'=>∃ x:ByteArray,u= .str x∧P x∧Kp h h' [c]∧Cur h' c):=by
 obtain⟨xs,r,hl,hx⟩:=UE (h:=h) hx
 refine(Q9 cu (Cy a r (by omega) (by omega)) (iL hb) (by omega)).mono ?_
 rintro u h' ⟨x,rfl,hm,k,cu⟩
 exact⟨x,rfl,hx x hm,k,cu⟩
instance{s:ByteArray}:Decidable (kN s):=by unfold kN qU;infer_instance
instance{s:ByteArray}:Decidable (ni s):=by unfold ni vC;infer_instance
theorem ag3 {cs:List AV} (h:∀ x∈cs,∃ s:ByteArray,x= .str s∧kN s:=by(repeat(first|exact fun _ h=>absurd h List.not_mem_nil|(refine VA (by decide) ?_)))):∀ x∈cs,∃ s:ByteArray,x= .str s∧kN s:=h
theorem Lx {cs:List AV} (h:∀ x∈cs,∃ s:ByteArray,x= .str s∧ni s:=by(repeat(first|exact fun _ h=>absurd h List.not_mem_nil|(refine VA (by decide) ?_)))):∀ x∈cs,∃ s:ByteArray,x= .str s∧ni s:=h
theorem JH {h:AH} {c:Nat} (cu:Cur h c):bq Tryz.prog qB [.ptr c 0] h (fun u h'=>∃ x:ByteArray,u= .str x∧kN x∧Kp h h' [c]∧Cur h' c):=by
 have lc:=cu.lt
 refine QT _ ?_
 unfold Kc
 refine vs ?_
 refine aL (EH kN aT aO aV (by rfl) (by decide) (by decide) ag3) ?_
 rintro _ h2 ⟨x,rfl,hx,k2,cu2⟩
 refine vs ?_
 exact⟨rfl,_,rfl,_,rfl,hx,bQ,aT⟩
def cbP:Nat→Int
 |0=>0
 |n+1=>1+2 * cbP n
theorem Xd:∀ n,0≤cbP n
 |0=>by simp[cbP]
 |n+1=>by have:=Xd n;simp only[cbP];omega
def pD (d:Nat) (p:Pol):Prop:=(∀ e:Int,e+d≤5→jF e p)∧dZ p≤cbP d
theorem ajc {m:Int} (hm:0≤m):∀ {l:List Pol},(∀ y∈l,dZ y≤m)→l.length≤2→bD dZ l≤2 * m
 |[],_,_=>by simp only[bD];omega
 |[a],h,_=>by have:=h a (by simp);simp only[bD];omega
 |[a,b],h,_=>by have:=h a (by simp);have:=h b (by simp);simp only[bD];omega
 |_::_::_::_,_,h=>by simp at h
theorem zC {d:Nat} {p:Pol} (h:jS p) (hl:p.l.length≤2) (hy:∀ y∈p.l,pD d y):pD (d+1) p:=by
 refine⟨fun e he=>uK.2 ⟨by omega,h,fun y hm=>(hy y hm).1 _ (by omega)⟩,?_⟩
 have:=ajc (Xd d) (fun y hm=>(hy y hm).2) hl
 rw[zH];simp only[cbP];omega
abbrev zP:List AV:=[.int .i64 0,.int .i64 0,.str ⟨#[]⟩,.str ⟨#[]⟩,.aA]
def DrP (h:AH) (c:Nat) (d:Nat):AV→AH→Prop:=fun u h'=>∃ x w F,u= .agg (Pol.cs x w)∧ah h' w x.l F∧Own h.n h' F∧Kp h h' [c]∧Cur h' c∧pD d x
theorem Nr {d:Nat} {y:Int} (e:y=1∨y=2∨y=6):pD (d+1) (.mk y 0 ⟨#[]⟩ ⟨#[]⟩ []):=zC (.inl ⟨e,⟨rfl,rfl,rfl⟩,rfl⟩) (by simp[Pol.l]) (fun y hy=>by simp[Pol.l] at hy)
theorem Nq {d:Nat} {y n:Int} (e:y=3) (h:0≤n∧n≤2147483647):pD (d+1) (.mk y n ⟨#[]⟩ ⟨#[]⟩ []):=zC (.inr (.inl ⟨e,h,rfl,rfl,rfl⟩)) (by simp[Pol.l]) (fun y hy=>by simp[Pol.l] at hy)
theorem Np {d:Nat} {y:Int} {k t:ByteArray} (e:y=4) (h:kN k) (h2:ni t):pD (d+1) (.mk y 0 k t []):=zC (.inr (.inr (.inl ⟨e,rfl,h,h2,rfl⟩))) (by simp[Pol.l]) (fun y hy=>by simp[Pol.l] at hy)
theorem Nn {d:Nat} {y n:Int} {k:ByteArray} (e:y=5) (h:kN k) (h2:0≤n∧n≤2147483647):pD (d+1) (.mk y n k ⟨#[]⟩ []):=zC (.inr (.inr (.inr (.inl ⟨e,h2,h,rfl,rfl⟩)))) (by simp[Pol.l]) (fun y hy=>by simp[Pol.l] at hy)
theorem Yr {d:Nat} {y:Int} {l:List Pol} (e:y=7∨y=8) (h1:1≤l.length) (h2:l.length≤2) (hy:∀ z∈l,pD d z):pD (d+1) (.mk y 0 ⟨#[]⟩ ⟨#[]⟩ l):=zC (.inr (.inr (.inr (.inr (.inl ⟨e,⟨rfl,rfl,rfl⟩,by show 1≤(l.length:Int);omega,by show(l.length:Int)≤4;omega⟩))))) h2 hy
theorem akG {d:Nat} {y:Int} {z:Pol} (e:y=9) (hy:pD d z):pD (d+1) (.mk y 0 ⟨#[]⟩ ⟨#[]⟩ [z]):=zC (.inr (.inr (.inr (.inr (.inr ⟨e,⟨rfl,rfl,rfl⟩,rfl⟩))))) (by simp[Pol.l]) (fun y hm=>by rw[List.mem_singleton.1 hm];exact hy)
def PSt (h0:AH) (c d b:Nat) (h:AH):Prop:=∃ y:Int,(1≤y∧y≤9)∧(1≤d∨y≤6)∧Bk h b [.int .i64 y,.int .i64 0,.str ⟨#[]⟩,.str ⟨#[]⟩,.aA] 0∧Bk h h0.n zP 0∧Kp h0 h [c]∧Cur h c∧h0.n < b∧b < h.n
set_option maxRecDepth 20000 in
theorem Bd:∀ (d:Nat),d≤3→1≤d→∀ {h:AH} {c:Nat},Cur h c→bq Tryz.prog rP [.ptr c 0,.int .i64 (d:Int)] h (DrP h c d)
 |0,_,h1,_,_,_=>absurd h1 (by decide)
 |d+1,h3,_,h,c,cu=>by
  have ih:=Bd d (by omega)
  have lc:=cu.lt
  have en:((d+1:Nat):Int) - 1=(d:Int):=by omega
  refine adJ _ _ ?_
  unfold Rh
  refine vs0 ?_
  refine aL (wo 1 9 aT aO aV (by rfl) (by decide) (by decide) wO) ?_
  rintro _ h2 ⟨x,rfl,hx0,hx1,k2,cu2⟩
  have n2:=k2.1;(try simp only[aJ,aN] at n2)
  (repeat' first|refine vs0 ?_|fail)
  refine br (fun q1=>?_) (fun q1=>?_)
  ·(repeat' first|refine vs0 ?_|fail)
   refine br (fun q2=>?_) (fun q2=>?_)
   all_goals
    refine vs0 ?_
    refine Hr (PSt h c d h2.n) ?_ ?_
    ·(repeat' first|refine vs ?_|((with_reducible refine aG fP ?_);(refine aL (lZ aT (by omega) (by omega)) ?_;rintro _ h2 ⟨x,rfl,hx0,hx1,k2,cu2⟩;have n2:=k2.1;(try simp only[aJ,aN] at n2)))|fail)
     all_goals first|exact⟨rfl,1+x,by omega,by omega,aO,aO,bQ,aT,by omega,by(try simp only[aJ,aN]);omega⟩|exact⟨rfl,x,by omega,by omega,aO,aO,bQ,aT,by omega,by(try simp only[aJ,aN]);omega⟩
   ·obtain⟨b,hb⟩:∃ b,b=h2.n:=⟨_,rfl⟩
    rw[←hb]
    clear hb
    rintro _ h1 ⟨y,hy,hy2,b5,bz,kk,cu1,lb,l1⟩
    clear k2 cu2 n2
    (repeat' first|refine vs ?_|(refine br ?_ ?_<;>first|exact bo|intro _)|((with_reducible refine aG qB ?_);(refine aL (JH aT) ?_;rintro _ h2 ⟨nm,rfl,hnm,k2,cu2⟩;have n2:=k2.1;(try simp only[aJ,aN] at n2)))|((with_reducible refine aG iR ?_);(refine aL (EH ni aT aO aV (by rfl) (by decide) (by decide) Lx) ?_;rintro _ h2 ⟨tx,rfl,htx,k2,cu2⟩;have n2:=k2.1;(try simp only[aJ,aN] at n2)))|((with_reducible refine aG gI ?_);(refine aL (wo 0 500 aT aO aV (by rfl) (by decide) (by decide) wO) ?_;rintro _ h2 ⟨q,rfl,hq0,hq1,k2,cu2⟩;have n2:=k2.1;(try simp only[aJ,aN] at n2)))|refine gS ?_|fail)
    all_goals first
     |exact⟨rfl,_,rfl,.mk y q ⟨#[]⟩ ⟨#[]⟩ [],.aA,[],rfl,ah.aA,Own.nil,bQ,aT,Nq (by omega) (by omega)⟩
     |exact⟨rfl,_,rfl,.mk y 0 nm tx [],.aA,[],rfl,ah.aA,Own.nil,bQ,aT,Np (by omega) hnm htx⟩
     |exact⟨rfl,_,rfl,.mk y q nm ⟨#[]⟩ [],.aA,[],rfl,ah.aA,Own.nil,bQ,aT,Nn (by omega) hnm (by omega)⟩
     |exact⟨rfl,_,rfl,.mk y 0 ⟨#[]⟩ ⟨#[]⟩ [],.aA,[],rfl,ah.aA,Own.nil,bQ,aT,Nr (by omega)⟩
     |skip
   ·obtain⟨b,hb⟩:∃ b,b=h2.n:=⟨_,rfl⟩
    rw[←hb]
    clear hb
    rintro _ h1 ⟨y,hy,hy2,b5,bz,kk,cu1,lb,l1⟩
    clear k2 cu2 n2
    (repeat' first|refine vs ?_|(refine br ?_ ?_<;>first|exact bo|intro _)|((with_reducible refine aG qB ?_);(refine aL (JH aT) ?_;rintro _ h2 ⟨nm,rfl,hnm,k2,cu2⟩;have n2:=k2.1;(try simp only[aJ,aN] at n2)))|((with_reducible refine aG iR ?_);(refine aL (EH ni aT aO aV (by rfl) (by decide) (by decide) Lx) ?_;rintro _ h2 ⟨tx,rfl,htx,k2,cu2⟩;have n2:=k2.1;(try simp only[aJ,aN] at n2)))|((with_reducible refine aG gI ?_);(refine aL (wo 0 500 aT aO aV (by rfl) (by decide) (by decide) wO) ?_;rintro _ h2 ⟨q,rfl,hq0,hq1,k2,cu2⟩;have n2:=k2.1;(try simp only[aJ,aN] at n2)))|refine gS ?_|fail)
    all_goals first
     |exact⟨rfl,_,rfl,.mk y q ⟨#[]⟩ ⟨#[]⟩ [],.aA,[],rfl,ah.aA,Own.nil,bQ,aT,Nq (by omega) (by omega)⟩
     |exact⟨rfl,_,rfl,.mk y 0 nm tx [],.aA,[],rfl,ah.aA,Own.nil,bQ,aT,Np (by omega) hnm htx⟩
     |exact⟨rfl,_,rfl,.mk y q nm ⟨#[]⟩ [],.aA,[],rfl,ah.aA,Own.nil,bQ,aT,Nn (by omega) hnm (by omega)⟩
     |exact⟨rfl,_,rfl,.mk y 0 ⟨#[]⟩ ⟨#[]⟩ [],.aA,[],rfl,ah.aA,Own.nil,bQ,aT,Nr (by omega)⟩
     |skip
  ·(repeat' first|refine vs0 ?_|fail)
   refine Hr (PSt h c d h2.n) ?_ ?_
   ·(repeat' first|refine vs ?_|fail)
    all_goals exact⟨rfl,x,by omega,by omega,aO,aO,bQ,aT,by omega,by(try simp only[aJ,aN]);omega⟩
   ·obtain⟨b,hb⟩:∃ b,b=h2.n:=⟨_,rfl⟩
    rw[←hb]
    clear hb
    rintro _ h1 ⟨y,hy,hy2,b5,bz,kk,cu1,lb,l1⟩
    clear k2 cu2 n2
    (repeat' first|refine vs ?_|(refine br ?_ ?_<;>first|exact bx|intro _)|((with_reducible refine aG qB ?_);(refine aL (JH aT) ?_;rintro _ h2 ⟨nm,rfl,hnm,k2,cu2⟩;have n2:=k2.1;(try simp only[aJ,aN] at n2)))|((with_reducible refine aG iR ?_);(refine aL (EH ni aT aO aV (by rfl) (by decide) (by decide) Lx) ?_;rintro _ h2 ⟨tx,rfl,htx,k2,cu2⟩;have n2:=k2.1;(try simp only[aJ,aN] at n2)))|((with_reducible refine aG gI ?_);(refine aL (wo 0 500 aT aO aV (by rfl) (by decide) (by decide) wO) ?_;rintro _ h2 ⟨q,rfl,hq0,hq1,k2,cu2⟩;have n2:=k2.1;(try simp only[aJ,aN] at n2)))|((with_reducible refine aG fP ?_);(refine aL (lZ aT (by omega) (by omega)) ?_;rintro _ h2 ⟨q,rfl,hq0,hq1,k2,cu2⟩;have n2:=k2.1;(try simp only[aJ,aN] at n2)))|((with_reducible refine aG rP ?_);(rw[en];refine aL (Bd d (by omega) (by omega) aT) ?_;rintro _ h2 ⟨z,w,G,rfl,rz,oz,k2,cu2,hz⟩;have n2:=k2.1;(try simp only[aJ,aN] at n2);dsimp only[Pol.cs]))|refine gS ?_|fail)
    all_goals first
     |exact⟨rfl,_,rfl,.mk y q ⟨#[]⟩ ⟨#[]⟩ [],.aA,[],rfl,ah.aA,Own.nil,bQ,aT,Nq (by omega) (by omega)⟩
     |exact⟨rfl,_,rfl,.mk y 0 nm tx [],.aA,[],rfl,ah.aA,Own.nil,bQ,aT,Np (by omega) hnm htx⟩
     |exact⟨rfl,_,rfl,.mk y q nm ⟨#[]⟩ [],.aA,[],rfl,ah.aA,Own.nil,bQ,aT,Nn (by omega) hnm (by omega)⟩
     |exact⟨rfl,_,rfl,.mk y 0 ⟨#[]⟩ ⟨#[]⟩ [],.aA,[],rfl,ah.aA,Own.nil,bQ,aT,Nr (by omega)⟩
     |skip
    ·obtain⟨m,rfl⟩:∃ j:Nat,q=j:=⟨q.toNat,by omega⟩
     have em:1+(m:Int)=((m+1:Nat):Int):=by omega
     rw[em]
     refine mo (fun n vs h4=>∃ va xs G,vs=[.int .i64 (n:Int)]∧xs.length+n≤2∧1≤xs.length+n∧Bk h4 b [.int .i64 y,.int .i64 0,.str ⟨#[]⟩,.str ⟨#[]⟩,va] 0∧Bk h4 h.n zP 0∧ah (α:=Pol) h4 va xs G∧Own (h.n+1) h4 G∧b ∉ G∧Kp h h4 [c]∧Cur h4 c∧(∀ z∈xs,pD d z)∧b < h4.n) (m+1) ⟨.aA,[],[],rfl,by simp only[List.length_nil];omega,by simp only[List.length_nil];omega,aO,aO,ah.aA,Own.nil,by simp,bQ,aT,by simp,by omega⟩ ?_
     clear b5 bz kk cu1 cu2 k2 l1
     rintro n vs h4 ⟨va,xs,G,rfl,hn,hn1,b3,z3,ru,ou,nb,k3,cu3,hd,lt3⟩
     have lc3:=cu3.lt
     simp only[g0]
     refine br (fun q=>?_) (fun q=>?_)
     ·(repeat' first|refine vs0 ?_|((with_reducible refine aG rP ?_);(rw[en];refine aL (Bd d (by omega) (by omega) aT) ?_;rintro _ h5 ⟨z,w,G4,rfl,r4,o4,k4,cu4,hz⟩;have n4:=k4.1;(try simp only[aJ,aN] at n4);dsimp only[Pol.cs]))|fail)
      have r4u:ah h5 va xs G:=aB
      have dG:∀ z∈G,z ∉ G4:=Cm ru o4 (Nat.le_refl _)
      have o4u:Own (h.n+1) h5 G:=aY
      refine iC (n:=h.n+1) (xs:=xs) (Fx:=G) (a:=z) (cs:=z.cs w) (G:=G4) aB (Pol.gD.2 ⟨w,rfl,aB⟩) (iK aY aY (Nat.le_refl _) dG) aV rfl (by omega) (by omega) ?_
      intro u' h6 F5 _ k5 r5 o5 w5
      have n5:=k5.1
      simp only[aJ,aN] at n5
      have nb5:b ∉ F5:=fun hm=>by
       rcases w5 _ hm with q9|q9|q9
       ·exact nb q9
       ·have:=(o4.2 _ q9).1;omega
       ·simp only[aJ,aN] at q9;omega
      have cu5:Cur h6 c:=w9 k5 aT fun z hz=>by have:=(ou.2 z hz).1;omega
      have z4:Bk h5 h.n zP 0:=aO
      have z5:Bk h6 h.n zP 0:=bI k5 aO (Cg ou (by omega))
      have e5:Kp h h6 [c]:=uQ k5 bQ fun z hz=>by have:=(ou.2 z hz).1;omega
      have b5:Bk h6 b [.int .i64 y,.int .i64 0,.str ⟨#[]⟩,.str ⟨#[]⟩,va] 0:=bI k5 aO nb
      refine vs ?_
      have en:((n:Int) - 1)=((n - 1:Nat):Int):=by omega
      rw[en]
      refine⟨n - 1,by omega,u',_,F5,rfl,?_,?_,aO,aO,aB,aY,nb5,bQ,aT,?_,by simp only[aN];omega⟩
      ·simp only[List.length_append,List.length_singleton];omega
      ·simp only[List.length_append,List.length_singleton];omega
      ·intro z' hz'
       rcases List.mem_append.1 hz' with g|g
       ·exact hd z' g
       ·rw[List.mem_singleton.1 g];exact hz
     ·(repeat' first|refine vs ?_|fail)
      exact⟨rfl,_,rfl,.mk y 0 ⟨#[]⟩ ⟨#[]⟩ xs,_,_,rfl,aB,aY,bQ,aT,Yr (by omega) (by omega) (by omega) hd⟩
    ·obtain⟨m,rfl⟩:∃ j:Nat,q=j:=⟨q.toNat,by omega⟩
     have em:1+(m:Int)=((m+1:Nat):Int):=by omega
     rw[em]
     refine mo (fun n vs h4=>∃ va xs G,vs=[.int .i64 (n:Int)]∧xs.length+n≤2∧1≤xs.length+n∧Bk h4 b [.int .i64 y,.int .i64 0,.str ⟨#[]⟩,.str ⟨#[]⟩,va] 0∧Bk h4 h.n zP 0∧ah (α:=Pol) h4 va xs G∧Own (h.n+1) h4 G∧b ∉ G∧Kp h h4 [c]∧Cur h4 c∧(∀ z∈xs,pD d z)∧b < h4.n) (m+1) ⟨.aA,[],[],rfl,by simp only[List.length_nil];omega,by simp only[List.length_nil];omega,aO,aO,ah.aA,Own.nil,by simp,bQ,aT,by simp,by omega⟩ ?_
     clear b5 bz kk cu1 cu2 k2 l1
     rintro n vs h4 ⟨va,xs,G,rfl,hn,hn1,b3,z3,ru,ou,nb,k3,cu3,hd,lt3⟩
     have lc3:=cu3.lt
     simp only[g0]
     refine br (fun q=>?_) (fun q=>?_)
     ·(repeat' first|refine vs0 ?_|((with_reducible refine aG rP ?_);(rw[en];refine aL (Bd d (by omega) (by omega) aT) ?_;rintro _ h5 ⟨z,w,G4,rfl,r4,o4,k4,cu4,hz⟩;have n4:=k4.1;(try simp only[aJ,aN] at n4);dsimp only[Pol.cs]))|fail)
      have r4u:ah h5 va xs G:=aB
      have dG:∀ z∈G,z ∉ G4:=Cm ru o4 (Nat.le_refl _)
      have o4u:Own (h.n+1) h5 G:=aY
      refine iC (n:=h.n+1) (xs:=xs) (Fx:=G) (a:=z) (cs:=z.cs w) (G:=G4) aB (Pol.gD.2 ⟨w,rfl,aB⟩) (iK aY aY (Nat.le_refl _) dG) aV rfl (by omega) (by omega) ?_
      intro u' h6 F5 _ k5 r5 o5 w5
      have n5:=k5.1
      simp only[aJ,aN] at n5
      have nb5:b ∉ F5:=fun hm=>by
       rcases w5 _ hm with q9|q9|q9
       ·exact nb q9
       ·have:=(o4.2 _ q9).1;omega
       ·simp only[aJ,aN] at q9;omega
      have cu5:Cur h6 c:=w9 k5 aT fun z hz=>by have:=(ou.2 z hz).1;omega
      have z4:Bk h5 h.n zP 0:=aO
      have z5:Bk h6 h.n zP 0:=bI k5 aO (Cg ou (by omega))
      have e5:Kp h h6 [c]:=uQ k5 bQ fun z hz=>by have:=(ou.2 z hz).1;omega
      have b5:Bk h6 b [.int .i64 y,.int .i64 0,.str ⟨#[]⟩,.str ⟨#[]⟩,va] 0:=bI k5 aO nb
      refine vs ?_
      have en:((n:Int) - 1)=((n - 1:Nat):Int):=by omega
      rw[en]
      refine⟨n - 1,by omega,u',_,F5,rfl,?_,?_,aO,aO,aB,aY,nb5,bQ,aT,?_,by simp only[aN];omega⟩
      ·simp only[List.length_append,List.length_singleton];omega
      ·simp only[List.length_append,List.length_singleton];omega
      ·intro z' hz'
       rcases List.mem_append.1 hz' with g|g
       ·exact hd z' g
       ·rw[List.mem_singleton.1 g];exact hz
     ·(repeat' first|refine vs ?_|fail)
      exact⟨rfl,_,rfl,.mk y 0 ⟨#[]⟩ ⟨#[]⟩ xs,_,_,rfl,aB,aY,bQ,aT,Yr (by omega) (by omega) (by omega) hd⟩
    ·have b6:Bk h2 b [.int .i64 y,.int .i64 0,.str ⟨#[]⟩,.str ⟨#[]⟩,.aA] 0:=aO
     have oz1:Own (h.n+1) h2 G:=oz.mono (by omega) fun _ _=>rfl
     refine iC (n:=h.n+1) (xs:=[]) (Fx:=[]) (a:=z) (cs:=z.cs w) (G:=G) ah.aA (Pol.gD.2 ⟨w,rfl,aB⟩) (by rw[List.nil_append];exact aY) aV rfl (by simp) (by simp) ?_
     intro u' h6 F5 _ k5 r5 o5 w5
     have n5:=k5.1
     simp only[aJ,aN] at n5
     have nb5:b ∉ F5:=fun hm=>by
      rcases w5 _ hm with q9|q9|q9
      ·cases q9
      ·have:=(oz.2 _ q9).1;omega
      ·simp only[aJ,aN] at q9;omega
     have b7:Bk h6 b [.int .i64 y,.int .i64 0,.str ⟨#[]⟩,.str ⟨#[]⟩,.aA] 0:=bI k5 aO List.not_mem_nil
     have cu5:Cur h6 c:=w9 k5 aT (fun z hz=>by cases hz)
     have z5:Bk h6 h.n zP 0:=bI k5 aO List.not_mem_nil
     have e5:Kp h h6 [c]:=uQ k5 bQ (fun z hz=>by cases hz)
     (repeat' first|refine vs ?_|fail)
     exact⟨rfl,_,rfl,.mk y 0 ⟨#[]⟩ ⟨#[]⟩ [z],_,_,rfl,aB,aY,bQ,aT,akG (by omega) hz⟩
theorem abV {h:AH} {c:Nat} (cu:Cur h c):bq Tryz.prog rP [.ptr c 0,.int .i64 3] h (DrP h c 3):=Bd 3 (by decide) (by decide) cu
theorem ajX {p:Pol} (h:pD 3 p):Ir p:=⟨h.1 1 (by decide),Int.le_trans h.2 (by decide)⟩
def DrC (h:AH) (c:Nat):AV→AH→Prop:=fun u h'=>∃ x w F,u= .agg (iQ.cs x w)∧ah h' w x.rule.l F∧Own h.n h' F∧Kp h h' [c]∧Cur h' c∧nI x
theorem ab7 {h:AH} {c:Nat} (cu:Cur h c):bq Tryz.prog Kn [.ptr c 0] h (DrC h c):=by
 have lc:=cu.lt
 refine acK _ ?_
 unfold Ql
 (repeat' first|refine vs0 ?_|((with_reducible refine aG fP ?_);(refine aL (lZ aT (by omega) (by omega)) ?_;rintro _ h2 ⟨x,rfl,hx0,hx1,k2,cu2⟩;have n2:=k2.1;(try simp only[aJ,aN] at n2)))|fail)
 refine aL (wo 1 50 aT aO aV (by rfl) (by decide) (by decide) wO) ?_
 rintro _ h3 ⟨q1,rfl,a1,b1,k3,cu3⟩
 have n3:=k3.1;(try simp only[aJ,aN] at n3)
 (repeat' first|refine vs0 ?_|fail)
 refine aL (wo 1 190 aT aO aV (by rfl) (by decide) (by decide) wO) ?_
 rintro _ h4 ⟨q2,rfl,a2,b2,k4,cu4⟩
 have n4:=k4.1;(try simp only[aJ,aN] at n4)
 (repeat' first|refine vs0 ?_|((with_reducible refine aG fP ?_);(refine aL (lZ aT (by omega) (by omega)) ?_;rintro _ h2 ⟨q,rfl,hq0,hq1,k2,cu2⟩;have n2:=k2.1;(try simp only[aJ,aN] at n2)))|fail)
 refine aL (wo 0 999 aT aO aV (by rfl) (by decide) (by decide) wO) ?_
 rintro _ h5 ⟨q3,rfl,a3,b3,k5,cu5⟩
 have n5:=k5.1;(try simp only[aJ,aN] at n5)
 (repeat' first|refine vs0 ?_|((with_reducible refine bB ?_);((first|refine ix ?_|refine ixi ?_|(refine ixg ?_;intro _ _)|(refine iP ?_;intro _ _));first|rintro _ _ _ _ _ ⟨rfl,rfl⟩ _|rintro _ _ _ _ _ ⟨_,rfl,_⟩ _|rintro _ _ _ _ _ ⟨_,_,_,_,rfl,rfl,_,_⟩ _|intro _ _ _ _ _ _ _))|(refine sx ?_;intro _ _)|refine gS ?_|fail)
 refine aL (abV aT) ?_
 rintro _ h6 ⟨z,w,G,rfl,rz,oz,k6,cu6,hz⟩
 have n6:=k6.1;(try simp only[aJ,aN] at n6)
 dsimp only[Pol.cs]
 (repeat' first|refine vs ?_|fail)
 exact⟨rfl,_,rfl,⟨_,_,_,_,_,_,_,z⟩,_,_,rfl,aB,aY,bQ,aT,⟨by dsimp only;omega,by dsimp only;omega,by dsimp only;omega,by dsimp only;omega,by dsimp only;omega,by dsimp only;omega,by dsimp only;omega,ajX hz⟩⟩
end Go.Proofs.YtcgjihfngdhjjaaGreat
