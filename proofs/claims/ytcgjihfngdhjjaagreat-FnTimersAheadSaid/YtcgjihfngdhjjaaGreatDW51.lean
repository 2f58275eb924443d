import Derived.Test.YtcgjihfngdhjjaaGreatDW132
section
set_option linter.unusedSimpArgs false
set_option linter.unusedVariables false
set_option maxHeartbeats 2000000
namespace Go.Proofs.YtcgjihfngdhjjaaGreat
open Go Go.Ab
section
def Sq (x0:AV):Prog:=.op (.aS 1 14 ahD [(0,1,.int .i64 (-1)),(1,1,.int .i64 0),(2,1,.int .i64 1),(3,1,.int .i64 2),(4,1,.int .i64 255),(5,1,.int .i64 256),(6,1,.int .i64 65535),(7,1,.int .i64 2147483647),(8,1,.int .i64 2147483648),(9,1,.int .i64 4294967295),(10,1,.int .i64 4294967296),(11,1,.int .i64 (-2147483648)),(12,1,.int .i64 9223372036854775807),(13,1,.int .i64 (-9223372036854775808))]) fun a=>Cl gI [x0,a] fun a=>.fin [.val a]
theorem aeN (x0:AV):CC Tryz.prog FR [x0] (Sq x0):=cc Tryz.func227
def Sn (x0:AV):Prog:=Cl jA [x0,.int .i64 2] fun a=>.ite a (Cl FR [x0] fun a=>.fin [.val a]) (.op (.aS 1 10 Vp [(0,1,.int .i64 (-2147483648)),(1,1,.int .i64 (-3)),(2,1,.int .i64 (-1)),(3,1,.int .i64 0),(4,1,.int .i64 1),(5,1,.int .i64 3),(6,1,.int .i64 7),(7,1,.int .i64 65536),(8,1,.int .i64 2147483647),(9,1,.int .i64 2147483648)]) fun a=>Cl gI [x0,a] fun a=>.fin [.val a])
theorem aeM (x0:AV):CC Tryz.prog yT [x0] (Sn x0):=cc Tryz.func162
def Kc (x0:AV):Prog:=.op (.aS 1 4 [.str ⟨#[]⟩,.str ⟨#[]⟩,.str ⟨#[]⟩,.str ⟨#[]⟩] [(0,1,.str ⟨#[107]⟩),(1,1,.str ⟨#[112,97,116,104]⟩),(2,1,.str ⟨#[99,111,100,101]⟩),(3,1,.str ⟨#[117,115,101,114]⟩)]) fun a=>Cl iR [x0,a] fun a=>.fin [.val a]
theorem QT (x0:AV):CC Tryz.prog qB [x0] (Kc x0):=cc Tryz.func249
def OA (x0:AV):Prog:=Cl jA [x0,.int .i64 2] fun a=>.ite a (Cl qB [x0] fun a=>.fin [.val a]) (.op (.aS 1 8 aiY [(0,1,.str ⟨#[]⟩),(1,1,.str ⟨#[75]⟩),(2,1,.str ⟨#[110,105,110,101,99,104,97,114,115]⟩),(3,1,.str ⟨#[101,105,103,104,116,97,98,99]⟩),(4,1,.str ⟨#[97,32,98]⟩),(5,1,.str ⟨#[97,49]⟩),(6,1,.str ⟨#[102,97,105,108,101,100]⟩),(7,1,.str ⟨#[102,97,105,108,101,100,120]⟩)]) fun a=>Cl iR [x0,a] fun a=>.fin [.val a])
theorem aaO (x0:AV):CC Tryz.prog Ej [x0] (OA x0):=cc Tryz.func208
def Qa (x0:AV):Prog:=Cl jA [x0,.int .i64 6] fun a=>.ite a (.op (.aS 1 7 aiZ [(0,1,.str ⟨#[]⟩),(1,1,.str ⟨#[34]⟩),(2,1,.str ⟨#[127]⟩),(3,1,.str ⟨#[31]⟩),(4,1,.str ⟨#[116,119,101,110,116,121,32,98,121,116,101,115,32,97,114,101,32,104,101,114,101]⟩),(5,1,.str ⟨#[116,119,101,110,116,121,98,121,116,101,115,97,114,101,104,101,114,101,50,48]⟩),(6,1,.str ⟨#[126,32]⟩)]) fun a=>Cl iR [x0,a] fun a=>.fin [.val a]) (.op (.aS 1 4 [.str ⟨#[]⟩,.str ⟨#[]⟩,.str ⟨#[]⟩,.str ⟨#[]⟩] [(0,1,.str ⟨#[97]⟩),(1,1,.str ⟨#[98]⟩),(2,1,.str ⟨#[111,107]⟩),(3,1,.str ⟨#[120,32,121]⟩)]) fun a=>Cl iR [x0,a] fun a=>.fin [.val a])
theorem acz (x0:AV):CC Tryz.prog EL [x0] (Qa x0):=cc Tryz.func209
end
theorem VW {i:Int} {cs:List AV} {P:Int→Prop} (h0:P i) (h:∀ x∈cs,∃ i:Int,x= .int .i64 i∧P i):∀ x∈AV.int .i64 i::cs,∃ i:Int,x= .int .i64 i∧P i:=List.forall_mem_cons.2 ⟨⟨i,rfl,h0⟩,h⟩
theorem LJ {h:AH} {P:Int→Prop}:∀ {cs:List AV},(∀ x∈cs,∃ i:Int,x= .int .i64 i∧P i)→∃ xs:List Int,bR h xs cs []∧xs.length=cs.length∧∀ i∈xs,P i
 |[],_=>⟨[],⟨rfl,rfl⟩,rfl,by simp⟩
 |c::cs,hc=>by
  obtain⟨xs,r,hl,hx⟩:=LJ (h:=h) (cs:=cs) fun x hx=>hc x (by simp[hx])
  obtain⟨i,rfl,h0⟩:=hc c (by simp)
  exact⟨i::xs,⟨[.int .i64 i],cs,[],[],rfl,rfl,⟨rfl,rfl⟩,r⟩,by simp[hl],List.forall_mem_cons.2 ⟨h0,hx⟩⟩
def rgB (x:Int):Prop:=-9223372036854775808≤x∧x < 9223372036854775808
theorem Cz {x:Int} (h:rgB x):Cel.ok x:=by obtain⟨h1,h2⟩:=h;exact⟨by omega,by omega⟩
theorem U6 {cs:List AV} (h:∀ x∈cs,∃ i:Int,x= .int .i64 i∧rgB i:=by(repeat(first|exact fun _ h=>absurd h List.not_mem_nil|(refine VW ⟨by omega,by omega⟩ ?_)))):∀ x∈cs,∃ i:Int,x= .int .i64 i∧rgB i:=h
theorem QY {h:AH} {c b n:Nat} {cs:List AV} (cu:Cur h c) (a:Bk h b cs 1) (hb: ¬ c=b) (hn:cs.length=n) (h0:0 < n) (hs:n < 1000) (hx:∀ x∈cs,∃ i:Int,x= .int .i64 i∧rgB i):bq Tryz.prog gI [.ptr c 0,.sl b 0 n] h (fun u h'=>∃ x:Int,u= .int .i64 x∧rgB x∧Kp h h' [c]∧Cur h' c):=by
 obtain⟨xs,r,hl,hx⟩:=LJ (h:=h) hx
 refine(Kw cu (Cy a r (by omega) (by omega)) (iL hb) (by omega)).mono ?_
 rintro u h' ⟨x,rfl,hm,k,cu⟩
 exact⟨x,rfl,hx x hm,k,cu⟩
def DrR (h:AH) (c:Nat):AV→AH→Prop:=fun u h'=>∃ x:Int,u= .int .i64 x∧rgB x∧Kp h h' [c]∧Cur h' c
def DrT (h:AH) (c:Nat):AV→AH→Prop:=fun u h'=>∃ x:ByteArray,u= .str x∧x.size≤50∧Kp h h' [c]∧Cur h' c
theorem aer {h:AH} {c:Nat} (cu:Cur h c):bq Tryz.prog FR [.ptr c 0] h (DrR h c):=by
 have lc:=cu.lt
 refine aeN _ ?_
 unfold Sq
 refine vs ?_
 refine aL (QY aT aO aV (by rfl) (by decide) (by decide) U6) ?_
 rintro _ h2 ⟨x,rfl,hx,k2,cu2⟩
 refine vs ?_
 exact⟨rfl,_,rfl,_,rfl,hx,bQ,aT⟩
theorem R8 {h:AH} {c:Nat} (cu:Cur h c):bq Tryz.prog yT [.ptr c 0] h (DrR h c):=by
 have lc:=cu.lt
 refine aeM _ ?_
 unfold Sn
 (repeat' first|refine vs ?_|((with_reducible refine aG jA ?_);(refine aL (uG aT (by omega) (by omega)) ?_;rintro _ h2 ⟨b,rfl,k2,cu2⟩;have n2:=k2.1;(try simp only[aJ,aN] at n2);cases b))|((with_reducible refine aG FR ?_);(refine aL (aer aT) ?_;rintro _ h2 ⟨x,rfl,hx,k2,cu2⟩))|fail)
 ·refine aL (QY aT aO aV (by rfl) (by decide) (by decide) U6) ?_
  rintro _ h2 ⟨x,rfl,hx,k2,cu2⟩
  refine vs ?_
  exact⟨rfl,_,rfl,_,rfl,hx,bQ,aT⟩
 ·exact⟨rfl,_,rfl,_,rfl,hx,bQ,aT⟩
theorem abY {h:AH} {c:Nat} (cu:Cur h c):bq Tryz.prog qB [.ptr c 0] h (DrT h c):=by
 have lc:=cu.lt
 refine QT _ ?_
 unfold Kc
 (repeat' first|refine vs ?_|((with_reducible refine aG iR ?_);(refine aL (yS aT aO aV (by rfl) (by decide) (by decide) wY) ?_;rintro _ h2 ⟨x,rfl,hx0,k2,cu2⟩;have n2:=k2.1;(try simp only[aJ,aN] at n2)))|fail)
 exact⟨rfl,_,rfl,_,rfl,hx0,bQ,aT⟩
theorem aaC {h:AH} {c:Nat} (cu:Cur h c):bq Tryz.prog Ej [.ptr c 0] h (DrT h c):=by
 have lc:=cu.lt
 refine aaO _ ?_
 unfold OA
 (repeat' first|refine vs ?_|((with_reducible refine aG jA ?_);(refine aL (uG aT (by omega) (by omega)) ?_;rintro _ h2 ⟨b,rfl,k2,cu2⟩;have n2:=k2.1;(try simp only[aJ,aN] at n2);cases b))|((with_reducible refine aG iR ?_);(refine aL (yS aT aO aV (by rfl) (by decide) (by decide) wY) ?_;rintro _ h2 ⟨x,rfl,hx0,k2,cu2⟩;have n2:=k2.1;(try simp only[aJ,aN] at n2)))|((with_reducible refine aG qB ?_);(refine aL (abY aT) ?_;rintro _ h2 ⟨x,rfl,hx0,k2,cu2⟩))|fail)
 all_goals exact⟨rfl,_,rfl,_,rfl,hx0,bQ,aT⟩
theorem abX {h:AH} {c:Nat} (cu:Cur h c):bq Tryz.prog EL [.ptr c 0] h (DrT h c):=by
 have lc:=cu.lt
 refine acz _ ?_
 unfold Qa
 (repeat' first|refine vs ?_|((with_reducible refine aG jA ?_);(refine aL (uG aT (by omega) (by omega)) ?_;rintro _ h2 ⟨b,rfl,k2,cu2⟩;have n2:=k2.1;(try simp only[aJ,aN] at n2);cases b))|((with_reducible refine aG iR ?_);(refine aL (yS aT aO aV (by rfl) (by decide) (by decide) wY) ?_;rintro _ h2 ⟨x,rfl,hx0,k2,cu2⟩;have n2:=k2.1;(try simp only[aJ,aN] at n2)))|fail)
 all_goals exact⟨rfl,_,rfl,_,rfl,hx0,bQ,aT⟩
end Go.Proofs.YtcgjihfngdhjjaaGreat
end
section
set_option linter.unusedSimpArgs false
set_option linter.unusedVariables false
set_option maxHeartbeats 2000000
namespace Go.Proofs.YtcgjihfngdhjjaaGreat
open Go Go.Ab
section
def Sk (x0:AV):Prog:=Cl wD [x0] fun a=>Cl fP [x0,.int .i64 8] fun b=>Bn .eql b (.int .i64 0) fun c=>.scope (.ite c (Cl Ej [x0] fun b=>Cl jA [x0,.int .i64 2] fun c=>Cl yT [x0] fun d=>Cl EL [x0] fun e=>.op (.build [.str ⟨#[]⟩,.bool false,.int .i64 0,.str ⟨#[]⟩] [(0,1,b),(1,1,c),(2,1,d),(3,1,e)]) fun b=>.op (.aS 4 1 [.str ⟨#[]⟩,.bool false,.int .i64 0,.str ⟨#[]⟩] [(0,4,b)]) fun b=>.op (.app 4 48 a b) fun a=>.leaf 0 [a]) (Bn .eql b (.int .i64 1) fun c=>.scope (.ite c (.op (.aS 1 2 [.str ⟨#[]⟩,.str ⟨#[]⟩] [(0,1,.str ⟨#[97]⟩),(1,1,.str ⟨#[122,111,111]⟩)]) fun b=>Cl iR [x0,b] fun b=>Cl rU [x0,b] fun b=>.op (.aS 4 1 [.str ⟨#[]⟩,.bool false,.int .i64 0,.str ⟨#[]⟩] [(0,4,b)]) fun b=>.op (.app 4 48 a b) fun a=>.leaf 0 [a]) (Bn .eql b (.int .i64 2) fun b=>.scope (.ite b (.op (.call rU [x0,.str ⟨#[118]⟩]) fun b=>.op (.call rU [x0,.str ⟨#[119]⟩]) fun c=>.op (.call rU [x0,.str ⟨#[120]⟩]) fun d=>.op (.call rU [x0,.str ⟨#[121]⟩]) fun e=>.op (.aS 4 4 ahC [(0,4,b),(4,4,c),(8,4,d),(12,4,e)]) fun b=>.op (.app 4 48 a b) fun a=>.leaf 0 [a]) (.leaf 0 [a])) (fun a=>.leaf 0 [g a 0]) fun a b=>aC a 1 (.leaf 1 b) .bad)) (fun a=>.leaf 0 [g a 0]) fun a b=>aC a 1 (.leaf 1 b) .bad)) (fun a=>.fin [.val (g a 0)]) fun a b=>aC a 1 (.leaf 1 b) .bad
theorem aeJ (x0:AV):CC Tryz.prog FQ [x0] (Sk x0):=cc Tryz.func163 [3] (fun _=>[])
def Si (x0:AV):Prog:=.op (.alloc jT) fun a=>Cl yM [x0] fun b=>.op (.alloc jT) fun c=>.op (.st 6 c b) fun _=>Cl fP [x0,.int .i64 12] fun b=>Bn .eql b (.int .i64 0) fun d=>.scope (.ite d (.op (.aS 1 3 [.int .i64 0,.int .i64 0,.int .i64 0] [(0,1,.int .i64 0),(1,1,.int .i64 999),(2,1,.int .i64 1000)]) fun a=>Cl gI [x0,a] fun a=>Sg 0 c a fun _=>.leaf 0 []) (Bn .eql b (.int .i64 1) fun a=>.scope (.ite a (.op (.aS 1 3 [.int .i64 0,.int .i64 0,.int .i64 0] [(0,1,.int .i64 0),(1,1,.int .i64 999),(2,1,.int .i64 1000)]) fun a=>Cl gI [x0,a] fun a=>Sg 1 c a fun _=>.leaf 0 []) (Bn .eql b (.int .i64 2) fun a=>.scope (.ite a (.op (.aS 1 3 [.int .i64 0,.int .i64 0,.int .i64 0] [(0,1,.int .i64 (-1)),(1,1,.int .i64 99999),(2,1,.int .i64 100000)]) fun a=>Cl gI [x0,a] fun a=>Sg 2 c a fun _=>.leaf 0 []) (Bn .eql b (.int .i64 3) fun a=>.scope (.ite a (Cl yT [x0] fun a=>Sg 3 c a fun _=>.leaf 0 []) (Bn .eql b (.int .i64 4) fun a=>.scope (.ite a (Cl FQ [x0] fun a=>Sg 5 c a fun _=>.leaf 0 []) (Bn .eql b (.int .i64 5) fun a=>.scope (.ite a (.op (.build [.str ⟨#[]⟩,.bool false,.int .i64 0,.str ⟨#[]⟩] [(0,1,.str ⟨#[97,97,97,97,97,97,97,97]⟩),(3,1,.str ⟨#[116,119,101,110,116,121,98,121,116,101,115,97,114,101,104,101,114,101,50,48]⟩)]) fun a=>.op (.build [.str ⟨#[]⟩,.bool false,.int .i64 0,.str ⟨#[]⟩] [(0,1,.str ⟨#[98,98,98,98,98,98,98,98]⟩),(3,1,.str ⟨#[116,119,101,110,116,121,98,121,116,101,115,97,114,101,104,101,114,101,50,48]⟩)]) fun b=>.op (.aS 1 3 [.str ⟨#[]⟩,.str ⟨#[]⟩,.str ⟨#[]⟩] [(0,1,.str ⟨#[116,119,101,110,116,121,98,121,116,101,115,97,114,101,104,101,114,101,50,48]⟩),(1,1,.str ⟨#[116,119,101,110,116,121,98,121,116,101,115,97,114,101,104,101,114,101,50]⟩),(2,1,.str ⟨#[]⟩)]) fun d=>Cl iR [x0,d] fun d=>.op (.build [.str ⟨#[]⟩,.bool false,.int .i64 0,.str ⟨#[]⟩] [(0,1,.str ⟨#[99,99,99,99,99,99,99,99]⟩),(3,1,d)]) fun d=>.op (.aS 4 3 ahE [(0,4,a),(4,4,b),(8,4,d)]) fun a=>Sg 5 c a fun _=>.leaf 0 []) (.leaf 0 [])) (fun _=>.leaf 0 []) fun a b=>aC a 1 (.leaf 1 b) .bad)) (fun _=>.leaf 0 []) fun a b=>aC a 1 (.leaf 1 b) .bad)) (fun _=>.leaf 0 []) fun a b=>aC a 1 (.leaf 1 b) .bad)) (fun _=>.leaf 0 []) fun a b=>aC a 1 (.leaf 1 b) .bad)) (fun _=>.leaf 0 []) fun a b=>aC a 1 (.leaf 1 b) .bad)) (fun _=>Ld 6 c fun b=>.op (.st 6 a b) fun _=>.fin [.cn 6 a]) fun a b=>aC a 1 (.leaf 1 b) .bad
theorem aeG (x0:AV):CC Tryz.prog FN [x0] (Si x0):=cc Tryz.func92 [2,3] (fun _=>[])
end
def asA (l:List Attr):Prop:=l.length≤12∧∀ x∈l,aD x
theorem M8 {l:List Attr} (h:asD l):asA l:=⟨by have:=h.1;omega,h.2⟩
theorem IK {k t:ByteArray} {b:Bool} {n:Int} (hk:k.size≤50) (ht:t.size≤50) (hn:rgB n):aD ⟨k,b,n,t⟩:=⟨⟨okS (s:=k) (by omega),Cz hn,okS (s:=t) (by omega)⟩,by show k.size+t.size≤100;omega⟩
theorem aiV {l m:List Attr} (h:asD l) (hm:m.length≤6) (ha:∀ x∈m,aD x):asA (l++m):=by
 refine⟨by have:=h.1;rw[List.length_append];omega,fun x hx=>?_⟩
 rcases List.mem_append.1 hx with q|q
 ·exact h.2 x q
 ·exact ha x q
theorem Nv {P:Program} {Q:Nat→List AV→AH→Prop} {h hh:AH} {c n:Nat} {u:AV} {xs ys:List Attr} {G:List Nat} {cs:List AV} {K:AV→Prog} (ru:ah hh u xs G) (ou:Own h.n hh G) (k:Kp h hh [c]) (cu:Cur hh c) (lc:c < h.n) (hl:asD xs) (r:bR hh ys cs []) (hn:ys.length=n) (hy:n≤6) (ha:∀ x∈ys,aD x)
  (hk:∀ u' h',DrS Attr h c asA u' h'→(K u').awp P h' Q):(Prog.op (.app 4 48 u (.sl hh.n 0 n)) K).awp P (hh.push ⟨cs,4,0⟩) Q:=by
 have hl1:=hl.1
 have kn:=k.1
 refine vM (n:=h.n) (xs:=xs) (ys:=ys) (Fx:=G) (Fy:=[hh.n]) (dU ru) (kX (α:=Attr) hn (by omega) r) (ou.ext ((Ext.refl _).push _) ru.lt) (by simp only[aJ];omega) rfl (by omega) (by omega) ?_
 intro u' h' F' _ kp r' o'
 exact hk u' h' ⟨_,F',r',o',uQ kp (k.push _) fun b hb=>(ou.2 b hb).1,w9 kp (BO cu) fun b hb=>by have:=(ou.2 b hb).1;omega,aiV hl (by omega) ha⟩
theorem aeo {h:AH} {c:Nat} (cu:Cur h c):bq Tryz.prog FQ [.ptr c 0] h (DrS Attr h c asA):=by
 have lc:=cu.lt
 refine aeJ _ ?_
 unfold Sk
 refine aL (Ku cu) ?_
 rintro u h1 ⟨xs,G,ru,ou,k1,cu1,hl⟩
 have n1:=k1.1
 (repeat' first|refine vs ?_|(refine br ?_ ?_<;>first|exact bx|intro _)|((with_reducible refine aG fP ?_);(refine aL (lZ aT (by omega) (by omega)) ?_;rintro _ h2 ⟨x,rfl,hx0,hx1,k2,cu2⟩;have n2:=k2.1;(try simp only[aJ,aN] at n2)))|((with_reducible refine aG jA ?_);(refine aL (uG aT (by omega) (by omega)) ?_;rintro _ h2 ⟨b,rfl,k2,cu2⟩;have n2:=k2.1;(try simp only[aJ,aN] at n2)))|((with_reducible refine aG iR ?_);(refine aL (yS aT aO aV (by rfl) (by decide) (by decide) wY) ?_;rintro _ h2 ⟨x,rfl,hx0,k2,cu2⟩;have n2:=k2.1;(try simp only[aJ,aN] at n2)))|((with_reducible refine aG Ej ?_);(refine aL (aaC aT) ?_;rintro _ h2 ⟨x,rfl,hx0,k2,cu2⟩;have n2:=k2.1;(try simp only[aJ,aN] at n2)))|((with_reducible refine aG yT ?_);(refine aL (R8 aT) ?_;rintro _ h2 ⟨x,rfl,hx1,k2,cu2⟩;have n2:=k2.1;(try simp only[aJ,aN] at n2)))|((with_reducible refine aG EL ?_);(refine aL (abX aT) ?_;rintro _ h2 ⟨x,rfl,hx0,k2,cu2⟩;have n2:=k2.1;(try simp only[aJ,aN] at n2)))|((with_reducible refine aG rU ?_);(refine aL (R7 aT (by first|assumption|decide)) ?_;rintro _ h2 ⟨y,_,_,rfl,⟨rfl,rfl⟩,-,k2,cu2,hy⟩;have n2:=k2.1;(try simp only[aJ,aN] at n2)))|fail)
 ·rename_i nm hnm _ _ _ _ _ _ _ _ nr _ _ _
  refine Nv (h:=h) (ys:=[⟨nm,b,nr,x⟩]) aB aY bQ aT lc hl (qH ⟨rfl,rfl⟩) rfl (by decide) (fun z hz=>by rw[List.mem_singleton.1 hz];exact IK hnm hx0 hx1) ?_
  rintro u' h' hD
  (repeat' first|refine vs ?_|fail)
  exact⟨rfl,_,rfl,hD⟩
 ·refine Nv (h:=h) (ys:=[y]) aB aY bQ aT lc hl (qH ⟨rfl,rfl⟩) rfl (by decide) (fun z hz=>by rw[List.mem_singleton.1 hz];exact hy) ?_
  rintro u' h' hD
  (repeat' first|refine vs ?_|fail)
  exact⟨rfl,_,rfl,hD⟩
 ·rename_i y1 hy1 _ _ _ _ y2 hy2 _ _ _ _ y3 hy3 _ _ _
  refine Nv (h:=h) (ys:=[y1,y2,y3,y]) aB aY bQ aT lc hl ⟨y1.cs,_,[],[],rfl,rfl,⟨rfl,rfl⟩,y2.cs,_,[],[],rfl,rfl,⟨rfl,rfl⟩,y3.cs,_,[],[],rfl,rfl,⟨rfl,rfl⟩,y.cs,_,[],[],rfl,rfl,⟨rfl,rfl⟩,rfl,rfl⟩ rfl (by decide) (fun z hz=>?_) ?_
  ·simp only[List.mem_cons,List.not_mem_nil,or_false] at hz
   rcases hz with rfl|rfl|rfl|rfl<;>assumption
  rintro u' h' hD
  (repeat' first|refine vs ?_|fail)
  exact⟨rfl,_,rfl,hD⟩
 ·exact⟨rfl,_,rfl,_,_,aB,aY,bQ,aT,M8 hl⟩
def sA (x:Span):Prop:=(rgB x.trace∧rgB x.id∧rgB x.start∧rgB x.fin)∧asA x.attrs
theorem ajN {x:Span} (h:sA x):Cel.ok x:=⟨Cz h.1.1,Cz h.1.2.1,Cz h.1.2.2.1,Cz h.1.2.2.2,fun a ha=>(h.2.2 a ha).1⟩
theorem ajM {x:Span} (h:sA x):Sz.sz x≤1300:=by
 have h1:=nD (m:=100) fun a ha=>(h.2.2 a ha).2
 have h2:=h.2.1
 show x.attrs.length+szs x.attrs≤1300
 omega
theorem Yh {x:Span} (h:sD x):sA x:=by
 obtain⟨⟨h1,h2,h3,h4⟩,h5⟩:=h
 unfold mi at h1 h2 h3 h4
 exact⟨⟨⟨by omega,by omega⟩,⟨by omega,by omega⟩,⟨by omega,by omega⟩,⟨by omega,by omega⟩⟩,M8 h5⟩
abbrev zS:List AV:=[.int .i64 0,.int .i64 0,.int .i64 0,.int .i64 0,.bool false,.aA]
theorem ajO {h:AH} {k1 k2 k3 t1 t2 t3:ByteArray} {b1 b2 b3:Bool} {n1 n2 n3:Int}:bR h [(⟨k1,b1,n1,t1⟩:Attr),⟨k2,b2,n2,t2⟩,⟨k3,b3,n3,t3⟩] [.str k1,.bool b1,.int .i64 n1,.str t1,.str k2,.bool b2,.int .i64 n2,.str t2,.str k3,.bool b3,.int .i64 n3,.str t3] []:=
 ⟨[_,_,_,_],_,[],[],rfl,rfl,⟨rfl,rfl⟩,[_,_,_,_],_,[],[],rfl,rfl,⟨rfl,rfl⟩,[_,_,_,_],_,[],[],rfl,rfl,⟨rfl,rfl⟩,rfl,rfl⟩
def SSt (h0:AH) (c b:Nat) (h:AH):Prop:=∃ (a0 a1 a2 a3:Int) (a4:Bool) (va:AV) (l:List Attr) (G:List Nat),
 Bk h b [.int .i64 a0,.int .i64 a1,.int .i64 a2,.int .i64 a3,.bool a4,va] 0∧Bk h h0.n zS 0∧ah h va l G∧Own (h0.n+1) h G∧b ∉ G∧Kp h0 h [c]∧Cur h c∧h0.n < h.n∧b < h.n∧(rgB a0∧rgB a1∧rgB a2∧rgB a3)∧asA l
theorem rgS {x:Int} (h0: -1000000≤x) (h1:x≤1000000):rgB x:=⟨by omega,by omega⟩
theorem aem {h:AH} {c:Nat} (cu:Cur h c):bq Tryz.prog FN [.ptr c 0] h (DrX Span h c sA):=by
 have lc:=cu.lt
 refine aeG _ ?_
 unfold Si
 (repeat' first|refine vs0 ?_|((with_reducible refine aG fP ?_);(refine aL (lZ aT (by omega) (by omega)) ?_;rintro _ h2 ⟨x,rfl,hx0,hx1,k2,cu2⟩;have n2:=k2.1;(try simp only[aJ,aN] at n2)))|((with_reducible refine aG yM ?_);(refine aL (QZ aT) ?_;rintro _ h2 ⟨⟨a0,a1,a2,a3,a4,l⟩,_,G,rfl,⟨u,rfl,ru⟩,ou,k2,cu2,hd⟩;have n2:=k2.1;(try simp only[aJ,aN] at n2);dsimp only[Span.cs];replace hd:=Yh hd;obtain⟨ha,hl⟩:=hd;dsimp only at ha hl ru))|fail)
 rename_i g0 _ _ _
 obtain⟨z0,z1,z2,z3⟩:=ha
 refine agH (SSt h c g0.n) (fun q=>?_) (fun q=>?_) ?_
 ·(repeat' first|refine vs ?_|((with_reducible refine aG gI ?_);(refine aL (Bj aT aO aV (by rfl) (by decide) (by decide) Cj) ?_;rintro _ h2 ⟨x,rfl,hx0,hx1,k2,cu2⟩;have n2:=k2.1;(try simp only[aJ,aN] at n2)))|fail)
  exact⟨rfl,_,_,_,_,_,_,_,_,aO,aO,aB,aY,kY,bQ,aT,aV,aV,⟨by exact rgS hx0 hx1,by assumption,by assumption,by assumption⟩,by assumption⟩
 ·(repeat' first|refine vs ?_|(refine br ?_ ?_<;>first|exact bx|intro _)|((with_reducible refine aG gI ?_);(refine aL (Bj aT aO aV (by rfl) (by decide) (by decide) Cj) ?_;rintro _ h2 ⟨x,rfl,hx0,hx1,k2,cu2⟩;have n2:=k2.1;(try simp only[aJ,aN] at n2)))|((with_reducible refine aG iR ?_);(refine aL (yS aT aO aV (by rfl) (by decide) (by decide) wY) ?_;rintro _ h2 ⟨x,rfl,hx0,k2,cu2⟩;have n2:=k2.1;(try simp only[aJ,aN] at n2)))|((with_reducible refine aG yT ?_);(refine aL (R8 aT) ?_;rintro _ h2 ⟨x,rfl,hr,k2,cu2⟩;have n2:=k2.1;(try simp only[aJ,aN] at n2)))|((with_reducible refine aG FQ ?_);(refine aL (aeo aT) ?_;rintro u h2 ⟨l,G,ru,ou,k2,cu2,hl⟩;have n2:=k2.1;(try simp only[aJ,aN] at n2)))|fail)
  ·exact⟨rfl,_,_,_,_,_,_,_,_,aO,aO,aB,aY,kY,bQ,aT,aV,aV,⟨by assumption,by exact rgS hx0 hx1,by assumption,by assumption⟩,by assumption⟩
  ·exact⟨rfl,_,_,_,_,_,_,_,_,aO,aO,aB,aY,kY,bQ,aT,aV,aV,⟨by assumption,by assumption,by exact rgS hx0 hx1,by assumption⟩,by assumption⟩
  ·exact⟨rfl,_,_,_,_,_,_,_,_,aO,aO,aB,aY,kY,bQ,aT,aV,aV,⟨by assumption,by assumption,by assumption,by assumption⟩,by assumption⟩
  ·exact⟨rfl,_,_,_,_,_,_,_,_,aO,aO,aB,aY,kY,bQ,aT,aV,aV,⟨by assumption,by assumption,by assumption,by assumption⟩,by assumption⟩
  ·have r3:=fun k=>kX (α:=Attr) (h:=h2.upd g0.n k) (n:=3) rfl (by decide) (ajO (k1:=⟨#[97,97,97,97,97,97,97,97]⟩) (k2:=⟨#[98,98,98,98,98,98,98,98]⟩) (k3:=⟨#[99,99,99,99,99,99,99,99]⟩) (t1:=⟨#[116,119,101,110,116,121,98,121,116,101,115,97,114,101,104,101,114,101,50,48]⟩) (t2:=⟨#[116,119,101,110,116,121,98,121,116,101,115,97,114,101,104,101,114,101,50,48]⟩) (t3:=x) (b1:=false) (b2:=false) (b3:=false) (n1:=0) (n2:=0) (n3:=0))
   have o3:∀ k cs,Own (h.n+1) ((h2.upd g0.n k).push ⟨cs,Cel.w Attr,0⟩) [h2.n]:=fun k cs=>oD (h:=h2.upd g0.n k) (by simp only[aN];omega) rfl (by simp) Own.nil
   have hl3:asA _:=⟨(by show 3≤12;omega),List.forall_mem_cons.2 ⟨IK (k:=⟨#[97,97,97,97,97,97,97,97]⟩) (t:=⟨#[116,119,101,110,116,121,98,121,116,101,115,97,114,101,104,101,114,101,50,48]⟩) (b:=false) (n:=0) (by decide) (by decide) ⟨by omega,by omega⟩,List.forall_mem_cons.2 ⟨IK (k:=⟨#[98,98,98,98,98,98,98,98]⟩) (t:=⟨#[116,119,101,110,116,121,98,121,116,101,115,97,114,101,104,101,114,101,50,48]⟩) (b:=false) (n:=0) (by decide) (by decide) ⟨by omega,by omega⟩,List.forall_mem_cons.2 ⟨IK (k:=⟨#[99,99,99,99,99,99,99,99]⟩) (t:=x) (b:=false) (n:=0) (by decide) hx0 ⟨by omega,by omega⟩,fun _ h=>absurd h List.not_mem_nil⟩⟩⟩⟩
   exact⟨rfl,_,_,_,_,_,_,_,_,aO,aO,(show ah _ (.sl h2.n 0 3) _ [h2.n] from r3 _),o3 _ _,iL (by omega),bQ,aT,aV,aV,⟨by assumption,by assumption,by assumption,by assumption⟩,hl3⟩
  ·exact⟨rfl,_,_,_,_,_,_,_,_,aO,aO,aB,aY,kY,bQ,aT,aV,aV,⟨by assumption,by assumption,by assumption,by assumption⟩,by assumption⟩
 obtain⟨b,hb⟩:∃ b,b=g0.n:=⟨_,rfl⟩
 have hbn:h.n < b:=by omega
 rw[←hb]
 clear hb
 rintro _ h1 ⟨a0,a1,a2,a3,a4,va,l,G,bk,bz,ru,ou,nb,kp,cu1,l1,l2,hs,ha⟩
 (repeat' first|refine vs ?_|fail)
 exact⟨rfl,_,rfl,⟨_,_,_,_,_,l⟩,_,_,rfl,⟨_,rfl,aB⟩,aY,bQ,aT,⟨hs,ha⟩⟩
end Go.Proofs.YtcgjihfngdhjjaaGreat
end
