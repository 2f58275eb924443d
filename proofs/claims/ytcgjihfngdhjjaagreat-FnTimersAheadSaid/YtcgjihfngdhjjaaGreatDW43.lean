import Derived.Test.YtcgjihfngdhjjaaGreatDK5
import Derived.Test.YtcgjihfngdhjjaaGreatDNm
set_option linter.unusedSimpArgs false
set_option linter.unusedVariables false
set_option maxHeartbeats 2000000
namespace Go.Proofs.YtcgjihfngdhjjaaGreat
open Go Go.Ab
section
def Sr (x0:AV):Prog:=Ln 0 x0 fun a=>Bn .add (.int .i64 140371) a fun a=>.loop [a,.int .i64 0] (fun a=>Ln 0 x0 fun b=>Bn .lss (g a 1) b fun b=>.gop b true (.mv (g a 1)) fun c=>.gop b true (.bin 0 .lss c (.int .i64 4000)) fun c=>Pk b c (.bool false) fun b=>.ite b (Bn .mul (g a 0) (.int .i64 137) fun b=>Ix 1 x0 (g a 1) fun c=>.op (.ld1 c) fun c=>.op (.conv .i64 c) fun c=>Bn .add b c fun b=>Bn .add b (.int .i64 11) fun b=>Bn .and b (.int .i64 1073741823) fun b=>Bn .add (g a 1) (.int .i64 1) fun a=>.leaf 0 [b,a]) (.leaf 2 [g a 0,g a 1])) fun a b=>aC a 1 (.leaf 1 b) (aC a 2 (.op (.build [.aA,.int .i64 0,.int .i64 0] [(0,1,x0),(2,1,g b 0)]) fun a=>.op (.box a) fun a=>.fin [.val a]) .bad)
theorem aeO (x0:AV):CC Tryz.prog FT [x0] (Sr x0):=cc Tryz.func42 [0,3,4] (fun _=>[])
def Rp (x0:AV):Prog:=Lf 2 x0 fun a=>Bn .mul a (.int .i64 6364136223846793005) fun a=>Bn .add a (.int .i64 1442695040888963407) fun a=>Sf 2 x0 a fun _=>Lf 2 x0 fun a=>Bn .shr a (.int .u64 33) fun a=>Lf 2 x0 fun b=>Bn .shr b (.int .u64 47) fun b=>Bn .xor a b fun a=>Bn .and a (.int .i64 255) fun a=>Lf 1 x0 fun b=>Lf 0 x0 fun c=>Ln 0 c fun c=>Bn .lss b c fun b=>.scope (.ite b (Lf 0 x0 fun b=>Lf 1 x0 fun c=>Ix 1 b c fun b=>.op (.ld1 b) fun b=>.op (.conv .i64 b) fun b=>Bn .add a b fun a=>Bn .and a (.int .i64 255) fun a=>Lf 1 x0 fun b=>Bn .add b (.int .i64 1) fun b=>Sf 1 x0 b fun _=>.leaf 0 [a]) (.leaf 0 [a])) (fun a=>.fin [.val (g a 0)]) fun a b=>aC a 1 (.leaf 1 b) .bad
theorem adR (x0:AV):CC Tryz.prog wE [x0] (Rp x0):=cc Tryz.func199 [3] (fun r=>if r=2 then[(0,[]),(1,[]),(2,[]),(3,[]),(4,[]),(5,[]),(6,[]),(7,[]),(8,[]),(9,[]),(10,[]),(11,[]),(12,[])] else if r=3 then[(0,[]),(1,[]),(2,[]),(3,[]),(4,[]),(5,[]),(6,[]),(7,[]),(8,[]),(9,[])] else if r=4 then[(0,[]),(1,[]),(2,[]),(3,[]),(4,[]),(5,[]),(6,[]),(7,[]),(8,[]),(9,[]),(10,[]),(11,[]),(12,[]),(13,[]),(14,[])] else[])
def Qb (x0 x1:AV):Prog:=Bn .leq x1 (.int .i64 0) fun a=>.ite a (.fin [.val (.int .i64 0)]) (Bn .leq x1 (.int .i64 256) fun a=>.ite a (Cl wE [x0] fun a=>Bn .rem a x1 fun a=>.fin [.val a]) (Cl wE [x0] fun a=>Cl wE [x0] fun b=>Cl wE [x0] fun c=>Bn .mul a (.int .i64 65536) fun a=>Bn .mul b (.int .i64 256) fun b=>Bn .add a b fun a=>Bn .add a c fun a=>Bn .rem a x1 fun a=>.fin [.val a]))
theorem acA (x0 x1:AV):CC Tryz.prog fP [x0,x1] (Qb x0 x1):=cc Tryz.func123
def Ro (x0 x1:AV):Prog:=Cl fP [x0,x1] fun a=>Bn .eql a (.int .i64 0) fun a=>.fin [.val a]
theorem adQ (x0 x1:AV):CC Tryz.prog jA [x0,x1] (Ro x0 x1):=cc Tryz.func204
def Sv (x0 x1:AV):Prog:=Ln 0 x1 fun a=>Cl fP [x0,a] fun a=>Ix 1 x1 a fun a=>.op (.ld1 a) fun a=>.fin [.val a]
theorem aeP (x0 x1:AV):CC Tryz.prog gI [x0,x1] (Sv x0 x1):=cc Tryz.func87
def Sm (x0 x1:AV):Prog:=Ln 0 x1 fun a=>Cl fP [x0,a] fun a=>Ix 1 x1 a fun a=>.op (.ld1 a) fun a=>.fin [.val a]
theorem aeL (x0 x1:AV):CC Tryz.prog iR [x0,x1] (Sm x0 x1):=cc Tryz.func164
end
def YW (h:AH):AV→AH→Prop:=fun u h'=>∃ c,u= .ptr c 0∧Ext h h'∧h.n≤c∧Cur h' c
set_option maxRecDepth 20000 in
theorem aes {h:AH} {l:List UInt8} {v:AV} {F:List Nat} (hs:l.length≤1048576) (r:ah h v l F):bq Tryz.prog FT [v] h (YW h):=by
 refine aeO _ ?_
 unfold Sr
 (repeat' first|refine vs ?_|fail)
 refine aX l.length (fun i vs h1=>∃ z:Int,vs=[.int .i64 z,.int .i64 (i:Int)]∧i≤l.length∧h1=h) ⟨_,rfl,Nat.zero_le _,rfl⟩ ?_
 rintro i vs h1 _ ⟨z,rfl,hi,rfl⟩
 simp only[g0,g1]
 have fin:∀ z:Int,YW h1 (.ptr h1.n 0) (h1.push ⟨[v,.int .i64 0,.int .i64 z],0,0⟩):=fun z=>⟨_,rfl,aI,by omega,_,_,_,_,_,gF,aB,fun b hb=>r.lt b hb,by omega,by omega⟩
 refine vs ?_
 refine br (fun q1=>?_) (fun q1=>?_)
 ·refine vs ?_
  refine ig (fun q2=>?_) (fun q2=>?_)
  ·refine vs ?_
   refine Cq ?_
   obtain⟨x,hx,-,-⟩:=aU (show i < l.length by omega)
   refine dw r hx rfl ?_
   rintro b o _ Fi a ⟨rfl,-⟩ _
   refine vs ?_
   refine gQ ?_
   refine gQ ?_
   refine MO (by omega) (by omega) fun y _ _=>?_
   refine vs ?_
   exact⟨by omega,_,rfl,by omega,rfl⟩
  ·refine vs ?_
   exact⟨rfl,_,rfl,fin _⟩
 ·refine vs ?_
  exact⟨rfl,_,rfl,fin _⟩
theorem adj {h:AH} {c:Nat} (cu:Cur h c):bq Tryz.prog wE [.ptr c 0] h (DrI h c 0 256):=by
 obtain⟨l,vb,F,i,z,bk,r,lt,i0,i1⟩:=cu
 refine adR _ ?_
 unfold Rp
 have nF:c ∉ F:=fun hm=>by have:=lt c hm;omega
 have hsm:=r.small
 have lc:=bk.1
 refine bA ?_
 (repeat' first|refine vs ?_|fail)
 refine Cq (gQ (bA ?_))
 (repeat' first|refine vs ?_|fail)
 refine bA ?_
 (repeat' first|refine vs ?_|fail)
 refine Xf (by decide) fun x1=>bA ?_
 (repeat' first|refine vs ?_|fail)
 refine Xf (by decide) fun x2=>ajC fun x3=>MO (by omega) (by omega) fun x h0 h1=>bA ?_
 (repeat' first|refine vs ?_|fail)
 refine bA ?_
 (repeat' first|refine vs ?_|(refine br ?_ ?_<;>first|exact bx|intro _)|fail)
 ·refine bA ?_
  refine vs ?_
  refine bA ?_
  refine vs ?_
  obtain⟨i,rfl⟩:∃ j:Nat,i=(j:Int):=⟨i.toNat,by omega⟩
  obtain⟨y,hy,-,-⟩:=aU (show i < l.length by omega)
  have hyl:y.toNat < 256:=y.toNat_lt
  refine dw (dH (k:=⟨[vb,.int .i64 (i:Int),.int .i64 (IntKind.i64.wrap (IntKind.i64.wrap (z * 6364136223846793005)+1442695040888963407))],0,0⟩) r nF) hy rfl ?_
  rintro b o _ Fi a ⟨rfl,-⟩ _
  refine vs ?_
  refine MO (by omega) (by omega) fun x' h0' h1'=>bA ?_
  refine vs ?_
  refine bA ?_
  refine vs ?_
  exact⟨rfl,_,rfl,x',rfl,h0',by omega,((Kp.refl _ _).qX (by simp) _).qX (by simp) _,l,vb,F,_,_,gG (by simpa using lc),dH (dH r nF) nF,lt,by omega,by omega⟩
 ·exact⟨rfl,_,rfl,x,rfl,h0,by omega,(Kp.refl _ _).qX (by simp) _,l,vb,F,_,_,gG lc,dH r nF,lt,by omega,by omega⟩
theorem lZ {h:AH} {c:Nat} {n:Int} (cu:Cur h c) (h0:0 < n) (h1:n < 281474976710656):bq Tryz.prog fP [.ptr c 0,.int .i64 n] h (DrI h c 0 n):=by
 refine acA _ _ ?_
 unfold Qb
 have rem:∀ {a:Int},0≤a→0≤a.tmod n∧a.tmod n < n:=fun h=>⟨Int.tmod_nonneg _ h,Int.tmod_lt_of_pos _ h0⟩
 (repeat' first|refine vs ?_|(with_reducible refine CQ (by omega) ?_)|(with_reducible refine Ml (by omega) (by omega) ?_)|(refine br ?_ ?_<;>first|exact bo|intro _)|((with_reducible refine aG wE ?_);(refine aL (adj aT) ?_;rintro _ h2 ⟨x,rfl,hx0,hx1,k2,cu2⟩;have n2:=k2.1;))|fail)
 ·have:=rem (a:=x) (by omega)
  exact⟨rfl,_,rfl,_,rfl,this.1,this.2,by assumption,by assumption⟩
 ·rename_i x1 _ _ _ _ _ _ x2 _ _ _ _ _
  have:=rem (a:=x1 * 65536+x2 * 256+x) (by omega)
  exact⟨rfl,_,rfl,_,rfl,this.1,this.2,bQ,by assumption⟩
theorem uG {h:AH} {c:Nat} {n:Int} (cu:Cur h c) (h0:0 < n) (h1:n < 281474976710656):bq Tryz.prog jA [.ptr c 0,.int .i64 n] h (DrB h c):=by
 refine adQ _ _ ?_
 unfold Ro
 refine aL (lZ cu h0 h1) ?_
 rintro _ h2 ⟨x,rfl,hx0,hx1,k2,cu2⟩
 (repeat' first|refine vs ?_|(refine br ?_ ?_<;>first|exact bx|intro _)|fail)
 all_goals exact⟨rfl,_,rfl,_,rfl,k2,cu2⟩
theorem Kw {h:AH} {c:Nat} {l:List Int} {v:AV} {F:List Nat} (cu:Cur h c) (r:ah h v l F) (hF:c ∉ F) (hl:0 < l.length):bq Tryz.prog gI [.ptr c 0,v] h (fun u h'=>∃ x:Int,u= .int .i64 x∧x∈l∧Kp h h' [c]∧Cur h' c):=by
 have hsm:=r.small
 refine aeP _ _ ?_
 unfold Sv
 refine eG r ?_
 refine aL (lZ cu (by omega) (by omega)) ?_
 rintro _ h2 ⟨x,rfl,hx0,hx1,k2,cu2⟩
 obtain⟨x,rfl⟩:∃ j:Nat,x=(j:Int):=⟨x.toNat,by omega⟩
 obtain⟨y,hy,-,-⟩:=aU (show x < l.length by omega)
 refine dw (aK k2 r (gJ hF)) hy rfl ?_
 rintro b o _ Fi a ⟨rfl,-⟩ _
 (repeat' first|refine vs ?_|fail)
 exact⟨rfl,_,rfl,y,rfl,List.mem_of_getElem? hy,k2,cu2⟩
theorem Q9 {h:AH} {c:Nat} {l:List ByteArray} {v:AV} {F:List Nat} (cu:Cur h c) (r:ah h v l F) (hF:c ∉ F) (hl:0 < l.length):bq Tryz.prog iR [.ptr c 0,v] h (fun u h'=>∃ x:ByteArray,u= .str x∧x∈l∧Kp h h' [c]∧Cur h' c):=by
 have hsm:=r.small
 refine aeL _ _ ?_
 unfold Sm
 refine eG r ?_
 refine aL (lZ cu (by omega) (by omega)) ?_
 rintro _ h2 ⟨x,rfl,hx0,hx1,k2,cu2⟩
 obtain⟨x,rfl⟩:∃ j:Nat,x=(j:Int):=⟨x.toNat,by omega⟩
 obtain⟨y,hy,-,-⟩:=aU (show x < l.length by omega)
 refine dw (aK k2 r (gJ hF)) hy rfl ?_
 rintro b o _ Fi a ⟨rfl,-⟩ _
 (repeat' first|refine vs ?_|fail)
 exact⟨rfl,_,rfl,y,rfl,List.mem_of_getElem? hy,k2,cu2⟩
def IV (x:AV):Prop:=∃ i:Int,x= .int .i64 i∧-1000000≤i∧i≤1000000
def IS (x:AV):Prop:=∃ s:ByteArray,x= .str s∧s.size≤50
theorem ajt:∀ x∈([]:List AV),IV x:=fun _ h=>absurd h List.not_mem_nil
theorem ait {i:Int} {cs:List AV} (h0: -1000000≤i) (h1:i≤1000000) (h:∀ x∈cs,IV x):∀ x∈AV.int .i64 i::cs,IV x:=List.forall_mem_cons.2 ⟨⟨i,rfl,h0,h1⟩,h⟩
theorem aju:∀ x∈([]:List AV),IS x:=fun _ h=>absurd h List.not_mem_nil
theorem aiu {s:ByteArray} {cs:List AV} (h1:s.size≤50) (h:∀ x∈cs,IS x):∀ x∈AV.str s::cs,IS x:=List.forall_mem_cons.2 ⟨⟨s,rfl,h1⟩,h⟩
theorem Cj {cs:List AV} (h:∀ x∈cs,IV x:=by(repeat(first|exact ajt|(refine ait (by decide) (by decide) ?_)))):∀ x∈cs,IV x:=h
theorem wY {cs:List AV} (h:∀ x∈cs,IS x:=by(repeat(first|exact aju|(refine aiu (by decide) ?_)))):∀ x∈cs,IS x:=h
theorem VX {h:AH}:∀ {cs:List AV},(∀ x∈cs,IV x)→∃ xs:List Int,bR h xs cs []∧xs.length=cs.length∧∀ i∈xs,-1000000≤i∧i≤1000000
 |[],_=>⟨[],⟨rfl,rfl⟩,rfl,by simp⟩
 |c::cs,hc=>by
  obtain⟨xs,r,hl,hx⟩:=VX (h:=h) (cs:=cs) fun x hx=>hc x (by simp[hx])
  obtain⟨i,rfl,h0,h1⟩:=hc c (by simp)
  exact⟨i::xs,⟨[.int .i64 i],cs,[],[],rfl,rfl,⟨rfl,rfl⟩,r⟩,by simp[hl],List.forall_mem_cons.2 ⟨⟨h0,h1⟩,hx⟩⟩
theorem L9 {h:AH}:∀ {cs:List AV},(∀ x∈cs,IS x)→∃ xs:List ByteArray,bR h xs cs []∧xs.length=cs.length∧∀ i∈xs,i.size≤50
 |[],_=>⟨[],⟨rfl,rfl⟩,rfl,by simp⟩
 |c::cs,hc=>by
  obtain⟨xs,r,hl,hx⟩:=L9 (h:=h) (cs:=cs) fun x hx=>hc x (by simp[hx])
  obtain⟨i,rfl,h0⟩:=hc c (by simp)
  exact⟨i::xs,⟨[.str i],cs,[],[],rfl,rfl,⟨rfl,rfl⟩,r⟩,by simp[hl],List.forall_mem_cons.2 ⟨h0,hx⟩⟩
theorem Cy {α:Type} [Cel α] {h:AH} {b n:Nat} {cs:List AV} {xs:List α} {F:List Nat} (a:Bk h b cs (Cel.w α)) (r:bR h xs cs F) (hn:xs.length=n) (hs:n < 281474976710656):ah h (.sl b 0 n) xs (b::F):=by
 have hl:=r.length
 obtain⟨a1,a2⟩:=a
 refine .inr ⟨b,0,F,cs,by rw[hn],rfl,a1,by simp[live,a2],by rw[a2],by rw[a2];simp[hl],by omega,by rw[a2];simp[←hl],r⟩
theorem Bj {h:AH} {c b n:Nat} {cs:List AV} (cu:Cur h c) (a:Bk h b cs 1) (hb: ¬ c=b) (hn:cs.length=n) (h0:0 < n) (hs:n < 1000) (hx:∀ x∈cs,IV x):bq Tryz.prog gI [.ptr c 0,.sl b 0 n] h (fun u h'=>∃ x:Int,u= .int .i64 x∧-1000000≤x∧x≤1000000∧Kp h h' [c]∧Cur h' c):=by
 obtain⟨xs,r,hl,hx⟩:=VX (h:=h) hx
 refine(Kw cu (Cy a r (by omega) (by omega)) (iL hb) (by omega)).mono ?_
 rintro u h' ⟨x,rfl,hm,k,cu⟩
 exact⟨x,rfl,(hx x hm).1,(hx x hm).2,k,cu⟩
theorem yS {h:AH} {c b n:Nat} {cs:List AV} (cu:Cur h c) (a:Bk h b cs 1) (hb: ¬ c=b) (hn:cs.length=n) (h0:0 < n) (hs:n < 1000) (hx:∀ x∈cs,IS x):bq Tryz.prog iR [.ptr c 0,.sl b 0 n] h (fun u h'=>∃ x:ByteArray,u= .str x∧x.size≤50∧Kp h h' [c]∧Cur h' c):=by
 obtain⟨xs,r,hl,hx⟩:=L9 (h:=h) hx
 refine(Q9 cu (Cy a r (by omega) (by omega)) (iL hb) (by omega)).mono ?_
 rintro u h' ⟨x,rfl,hm,k,cu⟩
 exact⟨x,rfl,hx x hm,k,cu⟩
end Go.Proofs.YtcgjihfngdhjjaaGreat
