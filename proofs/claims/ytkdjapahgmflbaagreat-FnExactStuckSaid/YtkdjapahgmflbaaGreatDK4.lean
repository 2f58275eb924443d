import Derived.Test.YtkdjapahgmflbaaGreatDK3
import Derived.Test.YtkdjapahgmflbaaGreatDK2
set_option linter.unusedSimpArgs false
set_option linter.unusedVariables false
section
namespace Go.Ab
open Go.RowKit
theorem aO {p:Prop} (h:p:=by(first|omega|(simp only[aH,aN];omega)|(simp only[aH,aN] at *;omega))):p:=h
theorem alp {g h h0:AH} {X:List Nat} (k:Kp g h X) (e:Ext h0 g) (hl:∀ b∈X,h0.n≤b):Ext h0 h:=k.ext e hl
theorem XF {h0 h:AH} {n:Nat} {X:List Nat} (o:Own n h X) (hn:h0.n≤n):∀ b∈X,h0.n≤b:=fun b hb=>Nat.le_trans hn (o.2 b hb).1
theorem aD {a b:AH} (e:Ext a b:=by(repeat(first|assumption|exact Ext.refl _|refine Ext.push ?_ _|refine Ext.upd ?_ aO _|refine Ext.trans ?_ (by assumption)|((with_reducible apply alp);assumption)|exact XF (by assumption) aO))):Ext a b:=e
def LD (h:AH) (b o:Nat) (v:AV):Prop:=(h.get b).cells[o]? =some v∧live h b
def LDN (h:AH) (n b o:Nat) (cs:List AV):Prop:=((h.get b).cells.drop o).take n=cs∧0 < n∧cs.length=n∧live h b
section
variable{h h0:AH}
theorem IL {b o j:Nat} {v:AV} {cs:List AV} (a:At h b o cs) (hv:cs[j]? =some v):LD h b (o+j) v:=⟨a.get hv,a.2.1⟩
theorem Zk {b o:Nat} {v:AV} {cs:List AV} (a:At h b o cs) (hv:cs[0]? =some v):LD h b o v:=IL a hv
theorem Zj {b o i j:Nat} {v:AV} {cs:List AV} (a:At h b o cs) (hv:cs[i+j]? =some v):LD h b (o+i+j) v:=by rw[Nat.add_assoc];exact IL a hv
theorem YW {b o j n:Nat} {cs cs':List AV} (a:At h b o cs) (n0:0 < n) (hc:(cs.drop j).take n=cs') (hn:cs'.length=n):LDN h n b (o+j) cs':=by
 have a':=(a.drop j).take n
 rw[hc] at a'
 have:=a'.2.2
 rw[hn] at this
 exact⟨this,n0,hn,a'.2.1⟩
theorem amQ {b o i j n:Nat} {cs cs':List AV} (a:At h b o cs) (n0:0 < n) (hc:(cs.drop (i+j)).take n=cs') (hn:cs'.length=n):LDN h n b (o+i+j) cs':=by rw[Nat.add_assoc];exact YW a n0 hc hn
theorem Zq {b o i j:Nat} {v:AV} (x:LD h b (o+i+j) v):LD h b (o+i+j) v:=x
theorem Zr {b o j:Nat} {v:AV} (x:LD h b (o+j) v):LD h b (o+j) v:=x
theorem anU {b n o i j:Nat} {v:List AV} (x:LDN h n b (o+i+j) v):LDN h n b (o+i+j) v:=x
theorem Zp {b n o j:Nat} {v:List AV} (x:LDN h n b (o+j) v):LDN h n b (o+j) v:=x
def WR (h:AH) (b o:Nat) (xs:List AV) (h':AH):Prop:=mine h b∧o+xs.length≤(h.get b).cells.length∧b < h.n∧h'=h.upd b {h.get b with cells:=splice (h.get b).cells o xs}
structure S0 (cs xs cs':List AV):Prop where
 a:xs.length≤cs.length
 b:xs++cs.drop xs.length=cs'
structure SP (cs:List AV) (o:Nat) (xs cs':List AV):Prop where
 a:o+xs.length≤cs.length
 b:splice cs o xs=cs'
theorem anl {cs:List AV}:S0 cs [] cs:=⟨by simp,by simp⟩
theorem anm {c x:AV} {cs xs cs':List AV} (s:S0 cs xs cs'):S0 (c::cs) (x::xs) (x::cs'):=⟨by have:=s.1;simp;omega,by simp[s.2]⟩
theorem anh {cs xs cs':List AV} (s:S0 cs xs cs'):SP cs 0 xs cs':=⟨by have:=s.1;omega,by simp[splice,s.2]⟩
theorem ang {c:AV} {o:Nat} {cs xs cs':List AV} (s:SP cs o xs cs'):SP (c::cs) (o+1) xs (c::cs'):=by
 obtain⟨h1,rfl⟩:=s
 refine⟨by simp;omega,?_⟩
 unfold splice
 rw[show o+1+xs.length=o+xs.length+1 by omega];simp
structure T0 (n:Nat) (cs cs':List AV):Prop where
 a:cs.take n=cs'
 b:cs'.length=n
structure TK (j n:Nat) (cs cs':List AV):Prop where
 a:(cs.drop j).take n=cs'
 b:cs'.length=n
theorem anf {cs:List AV}:T0 0 cs []:=⟨by simp,rfl⟩
theorem ane {c:AV} {n:Nat} {cs cs':List AV} (s:T0 n cs cs'):T0 (n+1) (c::cs) (c::cs'):=⟨by simp[s.1],by simp[s.2]⟩
theorem anc {n:Nat} {cs cs':List AV} (s:T0 n cs cs'):TK 0 n cs cs':=⟨by simpa using s.1,s.2⟩
theorem anb {c:AV} {j n:Nat} {cs cs':List AV} (s:TK j n cs cs'):TK (j+1) n (c::cs) cs':=⟨by simpa using s.1,s.2⟩
theorem Y3 {o:Nat} {cs cs' xs:List AV} {es:Nat} (s:SP cs o xs cs'):WR (h.push ⟨cs,es,0⟩) h.n o xs (h.push ⟨cs',es,0⟩):=by
 obtain⟨ho,rfl⟩:=s
 refine⟨by simp[mine],by simpa using ho,by simp,?_⟩
 simp only[Gj,if_true,Sd]
theorem ldw {b o n:Nat} {cs:List AV} (a:At h b o cs) (n0:0 < n) (hn:cs.length=n):LDN h n b o cs:=by
 subst hn
 exact⟨a.2.2,n0,rfl,a.2.1⟩
theorem YV {b o j n:Nat} {cs cs':List AV} (a:At h b o cs) (n0:0 < n) (t:TK j n cs cs'):LDN h n b (o+j) cs':=YW a n0 t.1 t.2
theorem amP {b o i j n:Nat} {cs cs':List AV} (a:At h b o cs) (n0:0 < n) (t:TK (i+j) n cs cs'):LDN h n b (o+i+j) cs':=amQ a n0 t.1 t.2
theorem Y2 {b o:Nat} {xs:List AV} {h':AH} {k:Blk} (w:WR h b o xs h'):WR (h.push k) b o xs (h'.push k):=by
 obtain⟨w1,w2,w3,rfl⟩:=w
 have e:b≠h.n:=by omega
 refine⟨by simpa[mine,e] using w1,by simpa[e] using w2,by simp;omega,?_⟩
 rw[aiG w3];simp[e]
end
section
variable{α:Type} [Cel α] {P:Program} {h h0 h':AH} {Q:Nat→List AV→AH→Prop} {k:AV→Prog}
theorem qU {b o:Nat} {v:AV} (l:LD h b o v) (hk:(k v).awp P h Q):(Prog.op (.ld1 (.ptr b o)) k).awp P h Q:=Yz l.1 l.2 hk
theorem qR {n b o:Nat} {cs:List AV} (l:LDN h n b o cs) (hk:(k (.agg cs)).awp P h Q):(Prog.op (.ldn n (.ptr b o)) k).awp P h Q:=Yy l.1 l.2.1 l.2.2.1 l.2.2.2 hk
theorem kU {n b o:Nat} {x:AV} {xs:List AV} (hx:x.cells? =some xs) (hn:xs.length=n) (w:WR h b o xs h') (hk:(k (.tup [])).awp P h' Q):(Prog.op (.st n (.ptr b o) x) k).awp P h Q:=by
 obtain⟨w1,w2,w3,rfl⟩:=w
 exact zl w1 hx hn (by omega) hk
theorem BK {n b o:Nat} {cs:List AV} {p:Prog} (l:LDN h n b o cs) (hk:p.awp P h Q):(Prog.chk (.ldn n (.ptr b o)) (.agg cs) p).awp P h Q:=by
 refine⟨?_,hk⟩
 have:=qR (P:=P) (k:=fun v=>.leaf 0 [v]) (Q:=fun t vs h'=>vs=[.agg cs]∧h'=h) l ⟨rfl,rfl⟩
 simp only[Prog.awp,AOp.go,List.cons.injEq,and_true] at this
 simp only[AOp.still,AOp.go,and_true]
 exact this
theorem qE {b o:Nat} {v:AV} {p:Prog} (l:LD h b o v) (hk:p.awp P h Q):(Prog.chk (.ld1 (.ptr b o)) v p).awp P h Q:=by
 refine⟨?_,hk⟩
 have:=qU (P:=P) (k:=fun v=>.leaf 0 [v]) (Q:=fun t vs h'=>vs=[v]∧h'=h) l ⟨rfl,rfl⟩
 simp only[Prog.awp,AOp.go,List.cons.injEq,and_true] at this
 simp only[AOp.still,AOp.go,and_true]
 exact this
theorem tX {v:AV} {xs:List α} {F:List Nat} (r:au h0 v xs F) (hk:(k (.int .i64 xs.length)).awp P h Q):(Prog.op (.len 0 v) k).awp P h Q:=bP r hk
theorem zo {es n:Nat} {zero cs:List AV} {parts:List (Nat × Nat × AV)} (hc:cZ zero parts=some cs) (h1:n * es≤16777216) (h2:cs.length=n * es) (hk:(k (.sl h.n 0 n)).awp P (h.push ⟨cs,es,0⟩) Q):(Prog.op (.aU es n zero parts) k).awp P h Q:=yh hc h1 h2 hk
theorem IG {v:AV}:(RV.val v).get h=some v:=rfl
theorem II {b o n:Nat} {cs:List AV} (l:LDN h n b o cs):(RV.cn n (.ptr b o)).get h=some (.agg cs):=by
 obtain⟨h1,h0,h3,h2⟩:=l
 have:o+n≤(h.get b).cells.length:=by
  have:=congrArg List.length h1
  simp only[List.length_take,List.length_drop] at this;omega
 have h2:(h.get b).st≠2:=h2
 simp only[RV.get,h2,if_false,this,if_true,h1]
theorem FU {o:AOp} {v:AV} {p:Prog} (hk:(Prog.chk o v p).awp P h Q):(Prog.kC (.bool true) true o v p).awp P h Q:=⟨by simpa using hk.1,hk.2⟩
theorem FX {o:AOp} {v:AV} {p:Prog} (hk:(Prog.chk o v p).awp P h Q):(Prog.kC (.bool false) false o v p).awp P h Q:=⟨by simpa using hk.1,hk.2⟩
theorem FW {o:AOp} {v:AV} {p:Prog} (hk:p.awp P h Q):(Prog.kC (.bool true) false o v p).awp P h Q:=⟨by simp,hk⟩
theorem LA {o:AOp} {v:AV} {p:Prog} (hk:p.awp P h Q):(Prog.kC (.bool false) true o v p).awp P h Q:=⟨by simp,hk⟩
theorem ajL {w:Bool} {o:AOp} {v:AV} {p:Prog} (hk:p.awp P h Q):(Prog.kC (.tup []) w o v p).awp P h Q:=⟨trivial,hk⟩
theorem alP {a b:Bool} (h1:a=b→(k (.bool true)).awp P h Q) (h2: ¬ a=b→(k (.bool false)).awp P h Q):(Prog.op (.bin 2 .eql (.bool a) (.bool b)) k).awp P h Q:=by
 refine alF ?_
 by_cases e:a=b
 ·simpa[e] using h1 e
 ·have:(a == b)=false:=by simpa using e
  rw[this];exact h2 e
theorem alO {a b:Bool} (h1: ¬ a=b→(k (.bool true)).awp P h Q) (h2:a=b→(k (.bool false)).awp P h Q):(Prog.op (.bin 2 .neq (.bool a) (.bool b)) k).awp P h Q:=by
 refine X4 ?_
 by_cases e:a=b
 ·simpa[e] using h2 e
 ·have:(a == b)=false:=by simpa using e
  rw[this];exact h1 e
end
def Bk (h:AH) (b:Nat) (cs:List AV) (es:Nat):Prop:=b < h.n∧h.get b=⟨cs,es,0⟩
section
variable{g h:AH} {b c o n es:Nat} {cs cs' xs:List AV} {k:Blk} {X:List Nat}
theorem fD:Bk (h.push ⟨cs,es,0⟩) h.n cs es:=⟨by simp,by simp⟩
theorem akM (e:b=h.n):Bk (h.push ⟨cs,es,0⟩) b cs es:=by subst e;exact fD
theorem akO (e:b=h.n):At (h.push ⟨cs,es,0⟩) b 0 cs:=by subst e;exact jY
theorem alu (e:b=c) (hb:b < h.n):Bk (h.upd c ⟨cs,es,0⟩) b cs es:=by subst e;exact⟨by simpa using hb,by simp⟩
theorem jC (a:Bk h b cs es):Bk (h.push k) b cs es:=by
 obtain⟨h1,h2⟩:=a
 have e:b≠h.n:=by omega
 exact⟨by simp;omega,by simp[e,h2]⟩
theorem fP (hb:b < h.n):Bk (h.upd b ⟨cs,es,0⟩) b cs es:=⟨by simpa using hb,by simp⟩
theorem BG (a:Bk h b cs es) (hne:b≠c):Bk (h.upd c k) b cs es:=⟨by simpa using a.1,by simp[hne,a.2]⟩
theorem dX (e:Ext g h) (a:Bk g b cs es):Bk h b cs es:=⟨Nat.lt_of_lt_of_le a.1 e.1,by rw[e.2 b a.1];exact a.2⟩
theorem bF (e:Kp g h X) (a:Bk g b cs es) (hX:b ∉ X):Bk h b cs es:=⟨Nat.lt_of_lt_of_le a.1 e.1,by rw[e.2 b a.1 hX];exact a.2⟩
theorem pI (a:Bk h b cs es):At h b 0 cs:=⟨a.1,by simp[live,a.2],by simp[a.2]⟩
theorem X6 (a:At h b o cs) (hne:b≠c):At (h.upd c k) b o cs:=⟨by simpa using a.1,by have:=a.2.1;simpa[live,hne] using this,by have:=a.2.2;simpa[hne] using this⟩
theorem X7 (e:Ext g h) (a:At g b o cs):At h b o cs:=a.ext e
theorem Ib (e:Kp g h X) (a:At g b o cs) (hX:b ∉ X):At h b o cs:=by
 have:=e.2 b a.1 hX
 exact⟨Nat.lt_of_lt_of_le a.1 e.1,by have h2:=a.2.1;unfold live at h2 ⊢;rw[this];exact h2,by rw[this];exact a.2.2⟩
theorem X5 (hb:b < h.n):At (h.upd b ⟨cs,es,0⟩) b 0 cs:=pI (fP hb)
theorem qQ (a:Bk h b cs es) (s:SP cs o xs cs'):WR h b o xs (h.upd b ⟨cs',es,0⟩):=by
 obtain⟨ho,rfl⟩:=s
 refine⟨by simp[mine,a.2],by simpa[a.2] using ho,a.1,by rw[a.2]⟩
end
section
variable{α:Type} [Cel α] {g h:AH} {v:AV} {xs:List α} {F X:List Nat} {b n n0:Nat} {k:Blk}
theorem oQ (r:au h v xs F):au (h.push k) v xs F:=r.ext ((Ext.refl h).push k)
theorem fC (r:au h v xs F) (hb:b ∉ F):au (h.upd b k) v xs F:=r.keep fun c hc=>⟨by have:c≠b:=fun e=>hb (e▸hc);simp[this],by simpa using r.lt c hc⟩
theorem jM (e:Ext g h) (r:au g v xs F):au h v xs F:=r.ext e
theorem aL (e:Kp g h X) (r:au g v xs F) (hX:∀ c∈F,c ∉ X):au h v xs F:=r.kp e hX
theorem au.cell (r:au h v xs F):v.cells? =some [v]:=by
 rcases r with⟨rfl,_,_⟩|⟨b,off,F',cs,rfl,_⟩<;>rfl
theorem ak8 (o:Own n0 g F) (hb:b < n0):b ∉ F:=fun hm=>by have:=(o.2 b hm).1;omega
theorem yP (r:au g v xs F) (hb:g.n≤b):b ∉ F:=fun hm=>by have:=r.lt b hm;omega
theorem XU (r:au g v xs F) (o:Own n h X) (hn:g.n≤n):∀ c∈F,c ∉ X:=fun c hc hx=>by have:=r.lt c hc;have:=(o.2 c hx).1;omega
theorem WW (o:Own n g F) (r:au h v xs X) (hn:h.n≤n):∀ c∈F,c ∉ X:=fun c hc hx=>by have:=r.lt c hx;have:=(o.2 c hc).1;omega
def New (n:Nat) (h:AH) (v:AV) (xs:List α) (F:List Nat):Prop:=au h v xs F∧Own n h F
end
def bO (n:Nat) (h:AH) (F:List Nat):Prop:=Own n h F∧∀ b∈F,b < h.n
section
variable{α:Type} [Cel α] {g h:AH} {v:AV} {xs:List α} {F X:List Nat} {b n n0:Nat} {k:Blk}
theorem YS (o:Own n0 h F) (r:au h v xs F) (hn:n≤n0):bO n h F:=⟨o.mono hn fun _ _=>rfl,r.lt⟩
end
section
variable{g h:AH} {F X:List Nat} {b n n0:Nat} {k:Blk}
theorem al9:bO n h []:=⟨Own.nil,by simp⟩
theorem jO (r:bO n h F):bO n (h.push k) F:=⟨r.1.ext ((Ext.refl h).push k) r.2,fun b hb=>by have:=r.2 b hb;simp;omega⟩
theorem dN (r:bO n h F) (hb:b ∉ F):bO n (h.upd b k) F:=⟨r.1.mono (Nat.le_refl _) fun c hc=>by have:c≠b:=fun e=>hb (e▸hc);simp[this],fun b hb=>by simpa using r.2 b hb⟩
theorem iN (e:Ext g h) (r:bO n g F):bO n h F:=⟨r.1.ext e r.2,fun b hb=>Nat.lt_of_lt_of_le (r.2 b hb) e.1⟩
theorem dD (e:Kp g h X) (r:bO n g F) (hX:∀ c∈F,c ∉ X):bO n h F:=⟨r.1.mono (Nat.le_refl _) fun c hc=>e.2 c (r.2 c hc) (hX c hc),fun b hb=>Nat.lt_of_lt_of_le (r.2 b hb) e.1⟩
theorem ama {G:List Nat} {m:Nat} (r:bO n h F) (r':bO m h G) (hn:n≤m) (d:∀ c∈F,c ∉ G):bO n h (F++G):=
 ⟨⟨List.nodup_append.2 ⟨r.1.1,r'.1.1,fun a ha b hb e=>d a ha (e▸hb)⟩,fun b hb=>by
  rcases List.mem_append.1 hb with hb|hb
  ·exact r.1.2 b hb
  ·exact⟨Nat.le_trans hn (r'.1.2 b hb).1,(r'.1.2 b hb).2⟩⟩,fun b hb=>by
  rcases List.mem_append.1 hb with hb|hb
  ·exact r.2 b hb
  ·exact r'.2 b hb⟩
end
theorem Bz {b c:Nat} (h: ¬ b=c):b ∉ [c]:=fun hm=>h (List.mem_singleton.1 hm)
theorem vM {b:Nat} {F:List Nat} (h:b ∉ F:=by(first|assumption|exact ak8 (by assumption) aO|exact yP (by assumption) aO|((with_reducible apply Bz);(try simp only[aH,aN]);omega))):b ∉ F:=h
theorem jh {b:Nat} {F:List Nat} (h:b ∉ F):∀ c∈F,c ∉ [b]:=fun c hc hx=>h (List.mem_singleton.1 hx▸hc)
theorem kK {F X:List Nat} (h:∀ c∈F,c ∉ X:=by(first|exact fun _ h=>absurd h List.not_mem_nil|exact XU (by assumption) (by assumption) aO|exact WW (by assumption) (by assumption) aO|exact jh vM)):∀ c∈F,c ∉ X:=h
theorem aV {h:AH} {b:Nat} {cs:List AV} {es:Nat} (a:Bk h b cs es:=by(repeat(first|assumption|with_reducible exact fD|((with_reducible apply akM);(simp only[aH,aN]<;>fail))|with_reducible apply jC|((with_reducible apply fP);exact aO)|((with_reducible apply alu);(rfl);exact aO)|with_reducible apply BG|((with_reducible apply dX);assumption)|((with_reducible apply bF);assumption)|exact vM|exact aO))):Bk h b cs es:=a
theorem iY {h:AH} {b o:Nat} {cs:List AV} (a:At h b o cs:=by(repeat(first|assumption|exact pI (by assumption)|with_reducible exact jY|((with_reducible apply akO);(simp only[aH,aN]<;>fail))|((with_reducible apply X5);exact aO)|with_reducible apply At.push|with_reducible apply X6|((with_reducible apply X7);assumption)|exact aO))):At h b o cs:=a
theorem ah {α:Type} [Cel α] {h:AH} {v:AV} {xs:List α} {F:List Nat} (r:au h v xs F:=by(repeat(first|assumption|exact au.aC|with_reducible apply oQ|with_reducible apply fC|((with_reducible apply jM);assumption)|((with_reducible apply aL);assumption)|exact vM|exact kK))):au h v xs F:=r
theorem bA {n:Nat} {h:AH} {F:List Nat} (r:bO n h F:=by(repeat(first|exact YS (by assumption) (by assumption) aO|with_reducible apply jO|with_reducible apply dN|((with_reducible apply iN);assumption)|exact vM))):Own n h F:=r.1
theorem aX {cs xs cs':List AV} {o:Nat} (s:SP cs o xs cs':=by(repeat(first|apply anh|apply ang|exact anl|apply anm))):SP cs o xs cs':=s
theorem Mg {j n:Nat} {cs cs':List AV} (s:TK j n cs cs':=by(repeat(first|apply anc|apply anb|exact anf|apply ane))):TK j n cs cs':=s
theorem yJ {h:AH} {b o:Nat} {v:AV} (l:LD h b o v:=by(first|((with_reducible apply Zq);exact Zj iY (by rfl))|((with_reducible apply Zr);exact IL iY (by rfl))|exact Zk iY (by rfl))):LD h b o v:=l
theorem yB {h:AH} {n b o:Nat} {cs:List AV} (l:LDN h n b o cs:=by(first|((with_reducible apply Zp);exact YV iY (by decide) Mg)|exact ldw iY (by decide) (by rfl))):LDN h n b o cs:=l
theorem Mf {h h':AH} {b o:Nat} {xs:List AV} (w:WR h b o xs h':=by(repeat(first|exact Y3 aX|with_reducible apply Y2|exact qQ aV aX))):WR h b o xs h':=w
theorem lZ {h:AH} {r:RV} {v:AV} (e:r.get h=some v:=by(first|with_reducible exact IG|((with_reducible apply II);exact yB))):r.get h=some v:=e
theorem amq {cs:List AV}:cZ cs []=some cs:=rfl
theorem alI {cs cs' out xs:List AV} {off size:Nat} {x:AV} {rest:List (Nat × Nat × AV)} (hx:x.cells? =some xs) (hn:xs.length=size) (s:SP cs off xs cs') (h:cZ cs' rest=some out):cZ cs ((off,size,x)::rest)=some out:=by
 obtain⟨s1,rfl⟩:=s
 subst hn
 simp only[cZ,hx]
 rw[if_pos ⟨trivial,s1⟩];exact h
theorem l7 {cs out:List AV} {ps:List (Nat × Nat × AV)} (h:cZ cs ps=some out:=by(repeat(first|with_reducible exact amq|with_reducible apply alI|exact aX|rfl|exact au.cell (by assumption)))):cZ cs ps=some out:=h
theorem it {A B C:Prop} (f:B→A) (g:C→B):C→A:=fun c=>f (g c)
section
variable{B:Prop} {P:Program} {h:AH} {Q:Nat→List AV→AH→Prop} {k:AV→Prog}
theorem tQ {a:AV} (y:B→(Prog.op (.ld1 a) k).awp P h Q):B→(Prog.op (.ld1 a) k).awp P h Q:=y
theorem tO {n:Nat} {a:AV} (y:B→(Prog.op (.ldn n a) k).awp P h Q):B→(Prog.op (.ldn n a) k).awp P h Q:=y
theorem tN {n:Nat} {a:AV} (y:B→(Prog.op (.len n a) k).awp P h Q):B→(Prog.op (.len n a) k).awp P h Q:=y
theorem yQ {a:AV} (y:B→(Prog.op (.box a) k).awp P h Q):B→(Prog.op (.box a) k).awp P h Q:=y
theorem uh {n:Nat} {a:AV} {x:AV} (y:B→(Prog.op (.st n a x) k).awp P h Q):B→(Prog.op (.st n a x) k).awp P h Q:=y
theorem qM {n:Nat} {a:AV} (y:B→(Prog.op (.ext a n) k).awp P h Q):B→(Prog.op (.ext a n) k).awp P h Q:=y
theorem alm {n:Nat} {a:AV} (y:B→(Prog.op (.zD n a) k).awp P h Q):B→(Prog.op (.zD n a) k).awp P h Q:=y
theorem vN {z:List AV} {ps:List (Nat × Nat × AV)} (y:B→(Prog.op (.build z ps) k).awp P h Q):B→(Prog.op (.build z ps) k).awp P h Q:=y
theorem xZ {n:Nat} {j:Nat} {z:List AV} {ps:List (Nat × Nat × AV)} (y:B→(Prog.op (.aU n j z ps) k).awp P h Q):B→(Prog.op (.aU n j z ps) k).awp P h Q:=y
theorem XO {a x:AV} (y:B→(Prog.op (.jR a x) k).awp P h Q):B→(Prog.op (.jR a x) k).awp P h Q:=y
theorem XP {r:RV} (y:B→(Prog.fin [r]).awp P h Q):B→(Prog.fin [r]).awp P h Q:=y
theorem GQ {r r2:RV} (y:B→(Prog.fin [r,r2]).awp P h Q):B→(Prog.fin [r,r2]).awp P h Q:=y
theorem aln {r r2 r3:RV} (y:B→(Prog.fin [r,r2,r3]).awp P h Q):B→(Prog.fin [r,r2,r3]).awp P h Q:=y
theorem BA {n:Nat} {a v:AV} {p:Prog} (y:B→(Prog.chk (.ldn n a) v p).awp P h Q):B→(Prog.chk (.ldn n a) v p).awp P h Q:=y
theorem qD {a v:AV} {p:Prog} (y:B→(Prog.chk (.ld1 a) v p).awp P h Q):B→(Prog.chk (.ld1 a) v p).awp P h Q:=y
theorem yR {n:Nat} {a x:AV} (y:B→(Prog.op (.bin n .add a x) k).awp P h Q):B→(Prog.op (.bin n .add a x) k).awp P h Q:=y
theorem HV {n:Nat} {a x:AV} (y:B→(Prog.op (.bin n .sub a x) k).awp P h Q):B→(Prog.op (.bin n .sub a x) k).awp P h Q:=y
theorem HY {n:Nat} {a x:AV} (y:B→(Prog.op (.bin n .quo a x) k).awp P h Q):B→(Prog.op (.bin n .quo a x) k).awp P h Q:=y
theorem Ih {a b:Int} (ha:0≤a) (hb:0 < b) (h2:a≤9223372036854775807) (hk:(k (.int .i64 (a / b))).awp P h Q):(Prog.op (.bin 0 .quo (.int .i64 a) (.int .i64 b)) k).awp P h Q:=by
 refine alz (by omega) ?_
 have h0:0≤a / b:=Int.ediv_nonneg ha (by omega)
 have h3:a / b≤a:=Int.ediv_le_self _ ha
 rw[Int.tdiv_eq_ediv_of_nonneg ha,kL (by omega) (by omega)];exact hk
theorem MO {n:Nat} {a x:AV} (y:B→(Prog.op (.bin n .rem a x) k).awp P h Q):B→(Prog.op (.bin n .rem a x) k).awp P h Q:=y
end
theorem vs {A B:Prop} (hb:B) (s:B→A:=by((apply it;(first|(with_reducible first|exact dM|exact dP|exact nN|exact jD|exact GX|exact dQ|exact yg|exact vE|exact qx|exact tu|exact H9|exact vG|exact vH|exact Bd|exact Bf|exact Lr|exact eY|exact lY|exact YD|exact MV|exact Xf|exact FU|exact FX)|((with_reducible apply tQ);first|exact qU yJ)|((with_reducible apply tO);first|exact qR yB)|((with_reducible apply tN);first|exact tX (by assumption))|((with_reducible apply yQ);first|exact mX (by rfl))|((with_reducible apply uh);first|exact kU (by first|rfl|exact au.cell (by assumption)) (by rfl) Mf)|((with_reducible apply qM);first|exact nO (by rfl))|((with_reducible apply yR);first|exact jc (by omega)|exact vX (by omega) (by omega))|((with_reducible apply HV);exact GV (by omega) (by omega))|((with_reducible apply HY);exact Ih (by omega) (by decide) (by omega))|((with_reducible apply xZ);first|exact zo l7 (by decide) (by rfl))|((with_reducible apply BA);exact BK yB)|((with_reducible apply qD);exact qE yJ)));(repeat(apply it;(first|(with_reducible first|exact dM|exact dP|exact Nk|exact nN|exact jD|exact GX|exact dQ|exact yg|exact vE|exact qx|exact tu|exact vG|exact vH|exact Bd|exact Bf|exact Wd|exact Lr|exact eY|exact MC|exact lY|exact qj|exact jW|exact Xg|exact Xe|exact Ye|exact Yd|exact MV|exact FW|exact LA)|((with_reducible apply tQ);first|exact qU yJ)|((with_reducible apply tO);first|exact qR yB)|((with_reducible apply tN);first|exact tX (by assumption))|((with_reducible apply yQ);first|exact mX (by rfl))|((with_reducible apply uh);first|exact kU (by first|rfl|exact au.cell (by assumption)) (by rfl) Mf)|((with_reducible apply qM);first|exact nO (by rfl))|((with_reducible apply yR);first|exact jc (by omega)|exact vX (by omega) (by omega))|((with_reducible apply HV);exact GV (by omega) (by omega))|((with_reducible apply MO);exact BZ (by decide))|((with_reducible apply HY);exact Ih (by omega) (by decide) (by omega))|((with_reducible apply vN);first|exact vP l7)|((with_reducible apply xZ);first|exact zo l7 (by decide) (by rfl))|((with_reducible apply qD);exact qE yJ)|((with_reducible apply XO);exact sx1 (by assumption))|((with_reducible apply XP);exact Xc lZ)|((with_reducible apply GQ);exact vO lZ lZ)|(exact qh (by decide))|(exact tJ (by decide)))));exact fun x=>x)):A:=s hb
theorem br {A B C:Prop} (b:B) (c:C) (s:B→C→A:=by(with_reducible first|exact iH|exact amn|exact MQ|exact amo|exact Ia|exact Ca|exact aly|exact alP|exact alO|exact yT)):A:=s b c
theorem ix {α:Type} [Cel α] {P:Program} {h h0:AH} {Q:Nat→List AV→AH→Prop} {k:AV→Prog} {v:AV} {xs:List α} {F:List Nat} {es i:Nat} {q:IntKind} {x:α} (hk:∀ b o cs Fi,At h0 b o cs→Cel.rep h0 x cs Fi→(∀ y∈Fi,y∈F)→(k (.ptr b o)).awp P h Q) (r:au h0 v xs F:=by assumption) (hx:xs[i]? =some x:=by assumption) (hw:es=Cel.w α:=by rfl):(Prog.op (.idx es v (.int q i)) k).awp P h Q:=bV r hx hw hk
theorem ixi {α:Type} [Cel α] {P:Program} {h h0:AH} {Q:Nat→List AV→AH→Prop} {k:AV→Prog} {v:AV} {xs:List α} {F:List Nat} {es:Nat} {i:Int} {q:IntKind} {x:α} (hk:∀ b o cs Fi,At h0 b o cs→Cel.rep h0 x cs Fi→(∀ y∈Fi,y∈F)→(k (.ptr b o)).awp P h Q) (r:au h0 v xs F:=by assumption) (hi:0≤i:=by omega) (hx:xs[i.toNat]? =some x:=by assumption) (hw:es=Cel.w α:=by rfl):(Prog.op (.idx es v (.int q i)) k).awp P h Q:=vV r hi hx hw hk
end Go.Ab
end
section
namespace Go.Ab
open Go.RowKit
inductive Pol where
 |mk (kind n:Int) (key text:ByteArray) (l:List Pol)
namespace Pol
def kind:Pol→Int| .mk k _ _ _ _=>k
def n:Pol→Int| .mk _ n _ _ _=>n
def key:Pol→ByteArray| .mk _ _ k _ _=>k
def text:Pol→ByteArray| .mk _ _ _ t _=>t
def l:Pol→List Pol| .mk _ _ _ _ l=>l
def cs (x:Pol) (v:AV):List AV:=[.int .i64 x.kind,.int .i64 x.n,.str x.key,.str x.text,v]
end Pol
mutual
def Pol.nW (h:AH):Pol→List AV→List Nat→Prop
 | .mk k n s t l,cs,F=>∃ v,cs=[.int .i64 k,.int .i64 n,.str s,.str t,v]∧ShR h 5 v l.length (Pol.mh h l) F
def Pol.mh (h:AH):List Pol→List AV→List Nat→Prop
 |[],cs,F=>cs=[]∧F=[]
 |p::ps,cs,F=>∃ c1 c2 F1 F2,cs=c1++c2∧F=F1++F2∧Pol.nW h p c1 F1∧Pol.mh h ps c2 F2
end
mutual
def Pol.okP:Pol→Prop
 | .mk k n s t l=>rng k∧rng n∧s.size≤maxLen∧t.size≤maxLen∧Pol.Ct l
def Pol.Ct:List Pol→Prop
 |[]=>True
 |p::ps=>Pol.okP p∧Pol.Ct ps
end
theorem Pol.len_ {h:AH}:∀ {x:Pol} {cs:List AV} {F:List Nat},Pol.nW h x cs F→cs.length=5
 | .mk k n s t l,cs,F,r=>by unfold Pol.nW at r;obtain⟨v,rfl,_⟩:=r;rfl
theorem ShR.lt {h:AH} {w n:Nat} {v:AV} {R:List AV→List Nat→Prop} {F:List Nat} (r:ShR h w v n R F) (hR:∀ cs F,R cs F→∀ b∈F,b < h.n):∀ b∈F,b < h.n:=by
 rcases r with⟨_,_,rfl⟩|⟨b,off,F',cs,_,rfl,h1,_,_,_,_,_,h2⟩
 ·simp
 ·intro x hx
  rcases List.mem_cons.1 hx with e|e
  ·rw[e];exact h1
  ·exact hR _ _ h2 x e
theorem ShR.keep {h h':AH} {w n:Nat} {v:AV} {R R':List AV→List Nat→Prop} {F:List Nat} (r:ShR h w v n R F) (k:∀ b∈F,h'.get b=h.get b∧b < h'.n) (hR:∀ cs F',(∀ b∈F',b∈F)→R cs F'→R' cs F'):ShR h' w v n R' F:=by
 rcases r with g|⟨b,off,F',cs,e1,rfl,h1,h2,h3,h4,h5,h6,h7⟩
 ·exact .inl g
 ·have kb:=k b (by simp)
  refine .inr ⟨b,off,F',cs,e1,rfl,kb.2,?_,?_,?_,h5,?_,hR _ _ (fun x hx=>by simp[hx]) h7⟩
  ·unfold live;rw[kb.1];exact h2
  ·rw[kb.1];exact h3
  ·rw[kb.1];exact h4
  ·rw[kb.1];exact h6
mutual
theorem Pol.lt_ {h:AH}:∀ (x:Pol) (cs:List AV) (F:List Nat),Pol.nW h x cs F→∀ b∈F,b < h.n
 | .mk k n s t l,cs,F,r=>by
  unfold Pol.nW at r;obtain⟨v,rfl,r⟩:=r
  exact r.lt (Pol.Zh l)
theorem Pol.Zh {h:AH}:∀ (x:List Pol) (cs:List AV) (F:List Nat),Pol.mh h x cs F→∀ b∈F,b < h.n
 |[],cs,F,r=>by unfold Pol.mh at r;obtain⟨_,rfl⟩:=r;simp
 |p::ps,cs,F,r=>by
  unfold Pol.mh at r
  obtain⟨c1,c2,F1,F2,rfl,rfl,r1,r2⟩:=r
  intro b hb
  rcases List.mem_append.1 hb with hb|hb
  ·exact Pol.lt_ p c1 F1 r1 b hb
  ·exact Pol.Zh ps c2 F2 r2 b hb
end
mutual
theorem Pol.YX {h h':AH}:∀ (x:Pol) (cs:List AV) (F:List Nat),Pol.nW h x cs F→(∀ b∈F,h'.get b=h.get b∧b < h'.n)→Pol.nW h' x cs F
 | .mk k n s t l,cs,F,r,hk=>by
  unfold Pol.nW at r ⊢;obtain⟨v,rfl,r⟩:=r
  exact⟨v,rfl,r.keep hk fun cs F' hs r=>Pol.Yu l cs F' r fun b hb=>hk b (hs b hb)⟩
theorem Pol.Yu {h h':AH}:∀ (x:List Pol) (cs:List AV) (F:List Nat),Pol.mh h x cs F→(∀ b∈F,h'.get b=h.get b∧b < h'.n)→Pol.mh h' x cs F
 |[],cs,F,r,hk=>by unfold Pol.mh at r ⊢;exact r
 |p::ps,cs,F,r,hk=>by
  unfold Pol.mh at r ⊢
  obtain⟨c1,c2,F1,F2,rfl,rfl,r1,r2⟩:=r
  exact⟨c1,c2,F1,F2,rfl,rfl,Pol.YX p c1 F1 r1 fun b hb=>hk b (List.mem_append_left _ hb),Pol.Yu ps c2 F2 r2 fun b hb=>hk b (List.mem_append_right _ hb)⟩
end
instance:Cel Pol where
 w:=5
 ok:=Pol.okP
 rep:=Pol.nW
 pos:=by decide
 len:=fun r=>Pol.len_ r
 lt:=fun r=>Pol.lt_ _ _ _ r
 keep:=fun r k=>Pol.YX _ _ _ r k
theorem Pol.LY {h:AH}:∀ {l:List Pol} {cs:List AV} {F:List Nat},bT h l cs F↔Pol.mh h l cs F
 |[],cs,F=>by simp[bT,Pol.mh]
 |p::ps,cs,F=>by
  simp only[bT,Pol.mh]
  constructor
  ·rintro⟨c1,c2,F1,F2,e1,e2,r1,r2⟩;exact⟨c1,c2,F1,F2,e1,e2,r1,Pol.LY.1 r2⟩
  ·rintro⟨c1,c2,F1,F2,e1,e2,r1,r2⟩;exact⟨c1,c2,F1,F2,e1,e2,r1,Pol.LY.2 r2⟩
theorem Pol.dw {h:AH} {x:Pol} {cs:List AV} {F:List Nat}:Cel.rep h x cs F↔∃ v,cs=x.cs v∧au h v x.l F:=by
 cases x with
 |mk k n s t l=>
  have e:bT h l=Pol.mh h l:=by funext cs F;exact propext Pol.LY
  show Pol.nW h (.mk k n s t l) cs F↔∃ v,cs=(Pol.mk k n s t l).cs v∧ShR h 5 v l.length (bT h l) F
  rw[e]
  unfold Pol.nW
  rfl
theorem Pol.GI:∀ {l:List Pol},Pol.Ct l↔∀ x∈l,Cel.ok x
 |[]=>by simp[Pol.Ct]
 |p::ps=>by
  simp only[Pol.Ct,List.mem_cons,forall_eq_or_imp]
  exact and_congr Iff.rfl Pol.GI
theorem ame {h:AH} {a b:Int} {c d:ByteArray} {v:AV} {l:List Pol} {F:List Nat} (ka:Cel.ok a) (kb:Cel.ok b) (kc:Cel.ok c) (kd:Cel.ok d) (r:au h v l F) (kl:Cel.ok l):∃ x:Pol,Cel.rep h x ([.int .i64 a]++([.int .i64 b]++([.str c]++([.str d]++([v]++[]))))) ([]++([]++([]++([]++(F++[])))))∧Cel.ok x:=
 ⟨.mk a b c d l,Pol.dw.2 ⟨v,rfl,by simpa[Pol.l] using r⟩,ka,kb,kc,kd,Pol.GI.2 kl⟩
structure Attr where
 key:ByteArray
 num:Bool
 n:Int
 text:ByteArray
def Attr.cs (x:Attr):List AV:=[.str x.key,.bool x.num,.int .i64 x.n,.str x.text]
instance:Cel Attr where
 w:=4
 ok:=fun x=>Cel.ok x.key∧Cel.ok x.n∧Cel.ok x.text
 rep:=fun h x cs F=>cs=x.cs∧F=[]
 pos:=by decide
 len:=by rintro h x cs F ⟨rfl,rfl⟩;rfl
 lt:=by rintro h x cs F ⟨rfl,rfl⟩;simp
 keep:=by rintro h h' x cs F r _;exact r
instance:Flat Attr where
 toCel:=inferInstance
 enc:=Attr.cs
 dw:=Iff.rfl
theorem ald {h:AH} {a0:ByteArray} {a1:Bool} {a2:Int} {a3:ByteArray} (k0:Cel.ok a0) (k1:Cel.ok a1) (k2:Cel.ok a2) (k3:Cel.ok a3):∃ x:Attr,Cel.rep h x ([.str a0]++([.bool a1]++([.int .i64 a2]++([.str a3]++[])))) ([]++([]++([]++([]++[]))))∧Cel.ok x:=by
 exact⟨⟨a0,a1,a2,a3⟩,⟨rfl,rfl⟩,⟨k0,k2,k3⟩⟩
structure Span where
 trace:Int
 id:Int
 start:Int
 fin:Int
 err:Bool
 attrs:List Attr
def Span.cs (x:Span) (v0:AV):List AV:=[.int .i64 x.trace,.int .i64 x.id,.int .i64 x.start,.int .i64 x.fin,.bool x.err,v0]
instance:Cel Span where
 w:=6
 ok:=fun x=>Cel.ok x.trace∧Cel.ok x.id∧Cel.ok x.start∧Cel.ok x.fin∧Cel.ok x.attrs
 rep:=fun h x cs F=>∃ v,cs=x.cs v∧au h v x.attrs F
 pos:=by decide
 len:=by rintro h x cs F ⟨v,rfl,_⟩;rfl
 lt:=by rintro h x cs F ⟨v,rfl,r⟩;exact r.lt
 keep:=by rintro h h' x cs F ⟨v,rfl,r⟩ k;exact⟨v,rfl,r.keep k⟩
theorem ala {h:AH} {a0:Int} {a1:Int} {a2:Int} {a3:Int} {a4:Bool} {a5:List Attr} {v5:AV} {F5:List Nat} (k0:Cel.ok a0) (k1:Cel.ok a1) (k2:Cel.ok a2) (k3:Cel.ok a3) (k4:Cel.ok a4) (r5:au h v5 a5 F5) (k5:Cel.ok a5):∃ x:Span,Cel.rep h x ([.int .i64 a0]++([.int .i64 a1]++([.int .i64 a2]++([.int .i64 a3]++([.bool a4]++([v5]++[])))))) ([]++([]++([]++([]++([]++(F5++[]))))))∧Cel.ok x:=by
 exact⟨⟨a0,a1,a2,a3,a4,a5⟩,⟨v5,rfl,by simpa using r5⟩,⟨k0,k1,k2,k3,k5⟩⟩
structure Bucket where
 rate:Int
 bn:Int
 tokens:Int
 at_:Int
def Bucket.cs (x:Bucket):List AV:=[.int .i64 x.rate,.int .i64 x.bn,.int .i64 x.tokens,.int .i64 x.at_]
instance:Cel Bucket where
 w:=4
 ok:=fun x=>True∧True∧True∧True
 rep:=fun h x cs F=>cs=x.cs∧F=[]
 pos:=by decide
 len:=by rintro h x cs F ⟨rfl,rfl⟩;rfl
 lt:=by rintro h x cs F ⟨rfl,rfl⟩;simp
 keep:=by rintro h h' x cs F r _;exact r
instance:Flat Bucket where
 toCel:=inferInstance
 enc:=Bucket.cs
 dw:=Iff.rfl
theorem ajX {h:AH} {a0:Int} {a1:Int} {a2:Int} {a3:Int} (k0:Cel.ok a0) (k1:Cel.ok a1) (k2:Cel.ok a2) (k3:Cel.ok a3):∃ x:Bucket,Cel.rep h x ([.int .i64 a0]++([.int .i64 a1]++([.int .i64 a2]++([.int .i64 a3]++[])))) ([]++([]++([]++([]++[]))))∧Cel.ok x:=by
 exact⟨⟨a0,a1,a2,a3⟩,⟨rfl,rfl⟩,⟨trivial,trivial,trivial,trivial⟩⟩
structure Timer where
 id:Int
 trace:Int
 at_:Int
def Timer.cs (x:Timer):List AV:=[.int .i64 x.id,.int .i64 x.trace,.int .i64 x.at_]
instance:Cel Timer where
 w:=3
 ok:=fun x=>True∧True∧True
 rep:=fun h x cs F=>cs=x.cs∧F=[]
 pos:=by decide
 len:=by rintro h x cs F ⟨rfl,rfl⟩;rfl
 lt:=by rintro h x cs F ⟨rfl,rfl⟩;simp
 keep:=by rintro h h' x cs F r _;exact r
instance:Flat Timer where
 toCel:=inferInstance
 enc:=Timer.cs
 dw:=Iff.rfl
theorem akv {h:AH} {a0:Int} {a1:Int} {a2:Int} (k0:Cel.ok a0) (k1:Cel.ok a1) (k2:Cel.ok a2):∃ x:Timer,Cel.rep h x ([.int .i64 a0]++([.int .i64 a1]++([.int .i64 a2]++[]))) ([]++([]++([]++[])))∧Cel.ok x:=by
 exact⟨⟨a0,a1,a2⟩,⟨rfl,rfl⟩,⟨trivial,trivial,trivial⟩⟩
structure bX where
 now:Int
 near:List (List Timer)
 far:List (List Timer)
 rest:List Timer
def bX.cs (x:bX) (v0 v1 v2:AV):List AV:=[.int .i64 x.now,v0,v1,v2]
instance:Cel bX where
 w:=4
 ok:=fun x=>True∧Cel.ok x.near∧Cel.ok x.far∧Cel.ok x.rest
 rep:=fun h x cs F=>∃ v0 v1 v2 F0 F1 F2,cs=x.cs v0 v1 v2∧F=F0++(F1++(F2))∧au h v0 x.near F0∧au h v1 x.far F1∧au h v2 x.rest F2
 pos:=by decide
 len:=by rintro h x cs F ⟨v0,v1,v2,F0,F1,F2,rfl,rfl,r0,r1,r2⟩;rfl
 lt:=by rintro h x cs F ⟨v0,v1,v2,F0,F1,F2,rfl,rfl,r0,r1,r2⟩;intro b hb;rcases List.mem_append.1 hb with hb|hb;exact r0.lt b hb;rcases List.mem_append.1 hb with hb|hb;exact r1.lt b hb;exact r2.lt b hb
 keep:=by rintro h h' x cs F ⟨v0,v1,v2,F0,F1,F2,rfl,rfl,r0,r1,r2⟩ k;exact⟨_,_,_,_,_,_,rfl,rfl,r0.keep fun b hb=>k b (List.mem_append_left _ hb),r1.keep fun b hb=>k b (List.mem_append_right _ (List.mem_append_left _ hb)),r2.keep fun b hb=>k b (List.mem_append_right _ (List.mem_append_right _ (hb)))⟩
theorem akt {h:AH} {a0:Int} {a1:List (List Timer)} {v1:AV} {F1:List Nat} {a2:List (List Timer)} {v2:AV} {F2:List Nat} {a3:List Timer} {v3:AV} {F3:List Nat} (k0:Cel.ok a0) (r1:au h v1 a1 F1) (k1:Cel.ok a1) (r2:au h v2 a2 F2) (k2:Cel.ok a2) (r3:au h v3 a3 F3) (k3:Cel.ok a3):∃ x:bX,Cel.rep h x ([.int .i64 a0]++([v1]++([v2]++([v3]++[])))) ([]++(F1++(F2++(F3++[]))))∧Cel.ok x:=by
 exact⟨⟨a0,a1,a2,a3⟩,⟨v1,v2,v3,F1,F2,F3,rfl,by simp,r1,r2,r3⟩,⟨trivial,k1,k2,k3⟩⟩
structure Trail where
 id:Int
 stamp:Int
 first:Int
 spans:List Span
def Trail.cs (x:Trail) (v0:AV):List AV:=[.int .i64 x.id,.int .i64 x.stamp,.int .i64 x.first,v0]
instance:Cel Trail where
 w:=4
 ok:=fun x=>Cel.ok x.id∧Cel.ok x.stamp∧Cel.ok x.first∧Cel.ok x.spans
 rep:=fun h x cs F=>∃ v,cs=x.cs v∧au h v x.spans F
 pos:=by decide
 len:=by rintro h x cs F ⟨v,rfl,_⟩;rfl
 lt:=by rintro h x cs F ⟨v,rfl,r⟩;exact r.lt
 keep:=by rintro h h' x cs F ⟨v,rfl,r⟩ k;exact⟨v,rfl,r.keep k⟩
theorem aku {h:AH} {a0:Int} {a1:Int} {a2:Int} {a3:List Span} {v3:AV} {F3:List Nat} (k0:Cel.ok a0) (k1:Cel.ok a1) (k2:Cel.ok a2) (r3:au h v3 a3 F3) (k3:Cel.ok a3):∃ x:Trail,Cel.rep h x ([.int .i64 a0]++([.int .i64 a1]++([.int .i64 a2]++([v3]++[])))) ([]++([]++([]++(F3++[]))))∧Cel.ok x:=by
 exact⟨⟨a0,a1,a2,a3⟩,⟨v3,rfl,by simpa using r3⟩,⟨k0,k1,k2,k3⟩⟩
structure aQ where
 held:Int
 l:List Trail
def aQ.cs (x:aQ) (v0:AV):List AV:=[.int .i64 x.held,v0]
instance:Cel aQ where
 w:=2
 ok:=fun x=>Cel.ok x.held∧Cel.ok x.l
 rep:=fun h x cs F=>∃ v,cs=x.cs v∧au h v x.l F
 pos:=by decide
 len:=by rintro h x cs F ⟨v,rfl,_⟩;rfl
 lt:=by rintro h x cs F ⟨v,rfl,r⟩;exact r.lt
 keep:=by rintro h h' x cs F ⟨v,rfl,r⟩ k;exact⟨v,rfl,r.keep k⟩
theorem ajW {h:AH} {a0:Int} {a1:List Trail} {v1:AV} {F1:List Nat} (k0:Cel.ok a0) (r1:au h v1 a1 F1) (k1:Cel.ok a1):∃ x:aQ,Cel.rep h x ([.int .i64 a0]++([v1]++[])) ([]++(F1++[]))∧Cel.ok x:=by
 exact⟨⟨a0,a1⟩,⟨v1,rfl,by simpa using r1⟩,⟨k0,k1⟩⟩
structure iL where
 eU:Int
 wait:Int
 budget:Int
 cache:Int
 queue:Int
 rate:Int
 bn:Int
 rule:Pol
def iL.cs (x:iL) (v0:AV):List AV:=[.int .i64 x.eU,.int .i64 x.wait,.int .i64 x.budget,.int .i64 x.cache,.int .i64 x.queue,.int .i64 x.rate,.int .i64 x.bn,.int .i64 x.rule.kind,.int .i64 x.rule.n,.str x.rule.key,.str x.rule.text,v0]
instance:Cel iL where
 w:=12
 ok:=fun x=>Cel.ok x.eU∧Cel.ok x.wait∧Cel.ok x.budget∧Cel.ok x.cache∧Cel.ok x.queue∧Cel.ok x.rate∧Cel.ok x.bn∧Cel.ok x.rule
 rep:=fun h x cs F=>∃ v,cs=x.cs v∧au h v x.rule.l F
 pos:=by decide
 len:=by rintro h x cs F ⟨v,rfl,_⟩;rfl
 lt:=by rintro h x cs F ⟨v,rfl,r⟩;exact r.lt
 keep:=by rintro h h' x cs F ⟨v,rfl,r⟩ k;exact⟨v,rfl,r.keep k⟩
theorem alc {h:AH} {a0:Int} {a1:Int} {a2:Int} {a3:Int} {a4:Int} {a5:Int} {a6:Int} {a7:Pol} {c7:List AV} {F7:List Nat} (k0:Cel.ok a0) (k1:Cel.ok a1) (k2:Cel.ok a2) (k3:Cel.ok a3) (k4:Cel.ok a4) (k5:Cel.ok a5) (k6:Cel.ok a6) (r7:Cel.rep h a7 c7 F7) (k7:Cel.ok a7):∃ x:iL,Cel.rep h x ([.int .i64 a0]++([.int .i64 a1]++([.int .i64 a2]++([.int .i64 a3]++([.int .i64 a4]++([.int .i64 a5]++([.int .i64 a6]++(c7++[])))))))) ([]++([]++([]++([]++([]++([]++([]++(F7++[]))))))))∧Cel.ok x:=by
 obtain⟨w7,rfl,q7⟩:=Pol.dw.1 r7
 exact⟨⟨a0,a1,a2,a3,a4,a5,a6,a7⟩,⟨w7,rfl,by simpa using q7⟩,⟨k0,k1,k2,k3,k4,k5,k6,k7⟩⟩
structure Itm where
 stamp:Int
 s:Span
def Itm.cs (x:Itm) (v0:AV):List AV:=[.int .i64 x.stamp,.int .i64 x.s.trace,.int .i64 x.s.id,.int .i64 x.s.start,.int .i64 x.s.fin,.bool x.s.err,v0]
instance:Cel Itm where
 w:=7
 ok:=fun x=>True∧Cel.ok x.s
 rep:=fun h x cs F=>∃ v,cs=x.cs v∧au h v x.s.attrs F
 pos:=by decide
 len:=by rintro h x cs F ⟨v,rfl,_⟩;rfl
 lt:=by rintro h x cs F ⟨v,rfl,r⟩;exact r.lt
 keep:=by rintro h h' x cs F ⟨v,rfl,r⟩ k;exact⟨v,rfl,r.keep k⟩
theorem amf {h:AH} {a0:Int} {a1:Span} {c1:List AV} {F1:List Nat} (k0:Cel.ok a0) (r1:Cel.rep h a1 c1 F1) (k1:Cel.ok a1):∃ x:Itm,Cel.rep h x ([.int .i64 a0]++(c1++[])) ([]++(F1++[]))∧Cel.ok x:=by
 obtain⟨w1,rfl,q1⟩:=r1
 exact⟨⟨a0,a1⟩,⟨w1,rfl,by simpa using q1⟩,⟨trivial,k1⟩⟩
structure Task where
 op:Int
 pc:Int
 s:Span
 trace:Int
 stamp:Int
 hand:List Itm
 h:Int
def Task.cs (x:Task) (v0 v1:AV):List AV:=[.int .i64 x.op,.int .i64 x.pc,.int .i64 x.s.trace,.int .i64 x.s.id,.int .i64 x.s.start,.int .i64 x.s.fin,.bool x.s.err,v0,.int .i64 x.trace,.int .i64 x.stamp,v1,.int .i64 x.h]
instance:Cel Task where
 w:=12
 ok:=fun x=>Cel.ok x.op∧Cel.ok x.pc∧Cel.ok x.s∧Cel.ok x.trace∧Cel.ok x.stamp∧Cel.ok x.hand∧Cel.ok x.h
 rep:=fun h x cs F=>∃ v0 v1 F0 F1,cs=x.cs v0 v1∧F=F0++(F1)∧au h v0 x.s.attrs F0∧au h v1 x.hand F1
 pos:=by decide
 len:=by rintro h x cs F ⟨v0,v1,F0,F1,rfl,rfl,r0,r1⟩;rfl
 lt:=by rintro h x cs F ⟨v0,v1,F0,F1,rfl,rfl,r0,r1⟩;intro b hb;rcases List.mem_append.1 hb with hb|hb;exact r0.lt b hb;exact r1.lt b hb
 keep:=by rintro h h' x cs F ⟨v0,v1,F0,F1,rfl,rfl,r0,r1⟩ k;exact⟨_,_,_,_,rfl,rfl,r0.keep fun b hb=>k b (List.mem_append_left _ hb),r1.keep fun b hb=>k b (List.mem_append_right _ (hb))⟩
theorem ak9 {h:AH} {a0:Int} {a1:Int} {a2:Span} {c2:List AV} {F2:List Nat} {a3:Int} {a4:Int} {a5:List Itm} {v5:AV} {F5:List Nat} {a6:Int} (k0:Cel.ok a0) (k1:Cel.ok a1) (r2:Cel.rep h a2 c2 F2) (k2:Cel.ok a2) (k3:Cel.ok a3) (k4:Cel.ok a4) (r5:au h v5 a5 F5) (k5:Cel.ok a5) (k6:Cel.ok a6):∃ x:Task,Cel.rep h x ([.int .i64 a0]++([.int .i64 a1]++(c2++([.int .i64 a3]++([.int .i64 a4]++([v5]++([.int .i64 a6]++[]))))))) ([]++([]++(F2++([]++([]++(F5++([]++[])))))))∧Cel.ok x:=by
 obtain⟨w2,rfl,q2⟩:=r2
 exact⟨⟨a0,a1,a2,a3,a4,a5,a6⟩,⟨w2,v5,F2,F5,rfl,by simp,q2,r5⟩,⟨k0,k1,k2,k3,k4,k5,k6⟩⟩
structure bI where
 op:Int
 task:Int
 s:Span
 trace:Int
 stamp:Int
 code:Int
 keep:Bool
 void:Bool
 took:Int
 n:Int
 forgot:Int
 now:Int
 inv:Int
 lin:Int
 res:Int
def bI.cs (x:bI) (v0:AV):List AV:=[.int .i64 x.op,.int .i64 x.task,.int .i64 x.s.trace,.int .i64 x.s.id,.int .i64 x.s.start,.int .i64 x.s.fin,.bool x.s.err,v0,.int .i64 x.trace,.int .i64 x.stamp,.int .i64 x.code,.bool x.keep,.bool x.void,.int .i64 x.took,.int .i64 x.n,.int .i64 x.forgot,.int .i64 x.now,.int .i64 x.inv,.int .i64 x.lin,.int .i64 x.res]
instance:Cel bI where
 w:=20
 ok:=fun x=>True∧True∧Cel.ok x.s∧True∧True∧True∧True∧True∧True∧True∧True∧True∧True
 rep:=fun h x cs F=>∃ v,cs=x.cs v∧au h v x.s.attrs F
 pos:=by decide
 len:=by rintro h x cs F ⟨v,rfl,_⟩;rfl
 lt:=by rintro h x cs F ⟨v,rfl,r⟩;exact r.lt
 keep:=by rintro h h' x cs F ⟨v,rfl,r⟩ k;exact⟨v,rfl,r.keep k⟩
theorem alb {h:AH} {a0:Int} {a1:Int} {a2:Span} {c2:List AV} {F2:List Nat} {a3:Int} {a4:Int} {a5:Int} {a6:Bool} {a7:Bool} {a8:Int} {a9:Int} {a10:Int} {a11:Int} {a12:Int} {a13:Int} {a14:Int} (k0:Cel.ok a0) (k1:Cel.ok a1) (r2:Cel.rep h a2 c2 F2) (k2:Cel.ok a2) (k3:Cel.ok a3) (k4:Cel.ok a4) (k5:Cel.ok a5) (k6:Cel.ok a6) (k7:Cel.ok a7) (k8:Cel.ok a8) (k9:Cel.ok a9) (k10:Cel.ok a10) (k11:Cel.ok a11) (k12:Cel.ok a12) (k13:Cel.ok a13) (k14:Cel.ok a14):∃ x:bI,Cel.rep h x ([.int .i64 a0]++([.int .i64 a1]++(c2++([.int .i64 a3]++([.int .i64 a4]++([.int .i64 a5]++([.bool a6]++([.bool a7]++([.int .i64 a8]++([.int .i64 a9]++([.int .i64 a10]++([.int .i64 a11]++([.int .i64 a12]++([.int .i64 a13]++([.int .i64 a14]++[]))))))))))))))) ([]++([]++(F2++([]++([]++([]++([]++([]++([]++([]++([]++([]++([]++([]++([]++[])))))))))))))))∧Cel.ok x:=by
 obtain⟨w2,rfl,q2⟩:=r2
 exact⟨⟨a0,a1,a2,a3,a4,a5,a6,a7,a8,a9,a10,a11,a12,a13,a14⟩,⟨w2,rfl,by simpa using q2⟩,⟨trivial,trivial,k2,trivial,trivial,trivial,trivial,trivial,trivial,trivial,trivial,trivial,trivial⟩⟩
structure Wld where
 c:iL
 time:Int
 shut:Bool
 st:List aQ
 bS:Int
 b:Bucket
 cache:List bJ
 used:Int
 w:bX
 due:List Timer
 queue:List Itm
 out:List Itm
 tasks:List Task
 aF:List bI
 next:Int
def Wld.cs (x:Wld) (v0 v1 v2 v3 v4 v5 v6 v7 v8 v9 v10:AV):List AV:=[.int .i64 x.c.eU,.int .i64 x.c.wait,.int .i64 x.c.budget,.int .i64 x.c.cache,.int .i64 x.c.queue,.int .i64 x.c.rate,.int .i64 x.c.bn,.int .i64 x.c.rule.kind,.int .i64 x.c.rule.n,.str x.c.rule.key,.str x.c.rule.text,v0,.int .i64 x.time,.bool x.shut,v1,.int .i64 x.bS,.int .i64 x.b.rate,.int .i64 x.b.bn,.int .i64 x.b.tokens,.int .i64 x.b.at_,v2,.int .i64 x.used,.int .i64 x.w.now,v3,v4,v5,v6,v7,v8,v9,v10,.int .i64 x.next]
instance:Cel Wld where
 w:=32
 ok:=fun x=>Cel.ok x.c∧True∧Cel.ok x.st∧True∧Cel.ok x.b∧Cel.ok x.cache∧True∧Cel.ok x.w∧Cel.ok x.due∧Cel.ok x.queue∧Cel.ok x.out∧Cel.ok x.tasks∧Cel.ok x.aF∧Cel.ok x.next
 rep:=fun h x cs F=>∃ v0 v1 v2 v3 v4 v5 v6 v7 v8 v9 v10 F0 F1 F2 F3 F4 F5 F6 F7 F8 F9 F10,cs=x.cs v0 v1 v2 v3 v4 v5 v6 v7 v8 v9 v10∧F=F0++(F1++(F2++(F3++(F4++(F5++(F6++(F7++(F8++(F9++(F10))))))))))∧au h v0 x.c.rule.l F0∧au h v1 x.st F1∧au h v2 x.cache F2∧au h v3 x.w.near F3∧au h v4 x.w.far F4∧au h v5 x.w.rest F5∧au h v6 x.due F6∧au h v7 x.queue F7∧au h v8 x.out F8∧au h v9 x.tasks F9∧au h v10 x.aF F10
 pos:=by decide
 len:=by rintro h x cs F ⟨v0,v1,v2,v3,v4,v5,v6,v7,v8,v9,v10,F0,F1,F2,F3,F4,F5,F6,F7,F8,F9,F10,rfl,rfl,r0,r1,r2,r3,r4,r5,r6,r7,r8,r9,r10⟩;rfl
 lt:=by rintro h x cs F ⟨v0,v1,v2,v3,v4,v5,v6,v7,v8,v9,v10,F0,F1,F2,F3,F4,F5,F6,F7,F8,F9,F10,rfl,rfl,r0,r1,r2,r3,r4,r5,r6,r7,r8,r9,r10⟩;intro b hb;rcases List.mem_append.1 hb with hb|hb;exact r0.lt b hb;rcases List.mem_append.1 hb with hb|hb;exact r1.lt b hb;rcases List.mem_append.1 hb with hb|hb;exact r2.lt b hb;rcases List.mem_append.1 hb with hb|hb;exact r3.lt b hb;rcases List.mem_append.1 hb with hb|hb;exact r4.lt b hb;rcases List.mem_append.1 hb with hb|hb;exact r5.lt b hb;rcases List.mem_append.1 hb with hb|hb;exact r6.lt b hb;rcases List.mem_append.1 hb with hb|hb;exact r7.lt b hb;rcases List.mem_append.1 hb with hb|hb;exact r8.lt b hb;rcases List.mem_append.1 hb with hb|hb;exact r9.lt b hb;exact r10.lt b hb
 keep:=by rintro h h' x cs F ⟨v0,v1,v2,v3,v4,v5,v6,v7,v8,v9,v10,F0,F1,F2,F3,F4,F5,F6,F7,F8,F9,F10,rfl,rfl,r0,r1,r2,r3,r4,r5,r6,r7,r8,r9,r10⟩ k;exact⟨_,_,_,_,_,_,_,_,_,_,_,_,_,_,_,_,_,_,_,_,_,_,rfl,rfl,r0.keep fun b hb=>k b (List.mem_append_left _ hb),r1.keep fun b hb=>k b (List.mem_append_right _ (List.mem_append_left _ hb)),r2.keep fun b hb=>k b (List.mem_append_right _ (List.mem_append_right _ (List.mem_append_left _ hb))),r3.keep fun b hb=>k b (List.mem_append_right _ (List.mem_append_right _ (List.mem_append_right _ (List.mem_append_left _ hb)))),r4.keep fun b hb=>k b (List.mem_append_right _ (List.mem_append_right _ (List.mem_append_right _ (List.mem_append_right _ (List.mem_append_left _ hb))))),r5.keep fun b hb=>k b (List.mem_append_right _ (List.mem_append_right _ (List.mem_append_right _ (List.mem_append_right _ (List.mem_append_right _ (List.mem_append_left _ hb)))))),r6.keep fun b hb=>k b (List.mem_append_right _ (List.mem_append_right _ (List.mem_append_right _ (List.mem_append_right _ (List.mem_append_right _ (List.mem_append_right _ (List.mem_append_left _ hb))))))),r7.keep fun b hb=>k b (List.mem_append_right _ (List.mem_append_right _ (List.mem_append_right _ (List.mem_append_right _ (List.mem_append_right _ (List.mem_append_right _ (List.mem_append_right _ (List.mem_append_left _ hb)))))))),r8.keep fun b hb=>k b (List.mem_append_right _ (List.mem_append_right _ (List.mem_append_right _ (List.mem_append_right _ (List.mem_append_right _ (List.mem_append_right _ (List.mem_append_right _ (List.mem_append_right _ (List.mem_append_left _ hb))))))))),r9.keep fun b hb=>k b (List.mem_append_right _ (List.mem_append_right _ (List.mem_append_right _ (List.mem_append_right _ (List.mem_append_right _ (List.mem_append_right _ (List.mem_append_right _ (List.mem_append_right _ (List.mem_append_right _ (List.mem_append_left _ hb)))))))))),r10.keep fun b hb=>k b (List.mem_append_right _ (List.mem_append_right _ (List.mem_append_right _ (List.mem_append_right _ (List.mem_append_right _ (List.mem_append_right _ (List.mem_append_right _ (List.mem_append_right _ (List.mem_append_right _ (List.mem_append_right _ (hb)))))))))))⟩
theorem amd {h:AH} {a0:iL} {c0:List AV} {F0:List Nat} {a1:Int} {a2:Bool} {a3:List aQ} {v3:AV} {F3:List Nat} {a4:Int} {a5:Bucket} {c5:List AV} {F5:List Nat} {a6:List bJ} {v6:AV} {F6:List Nat} {a7:Int} {a8:bX} {c8:List AV} {F8:List Nat} {a9:List Timer} {v9:AV} {F9:List Nat} {a10:List Itm} {v10:AV} {F10:List Nat} {a11:List Itm} {v11:AV} {F11:List Nat} {a12:List Task} {v12:AV} {F12:List Nat} {a13:List bI} {v13:AV} {F13:List Nat} {a14:Int} (r0:Cel.rep h a0 c0 F0) (k0:Cel.ok a0) (k1:Cel.ok a1) (k2:Cel.ok a2) (r3:au h v3 a3 F3) (k3:Cel.ok a3) (k4:Cel.ok a4) (r5:Cel.rep h a5 c5 F5) (k5:Cel.ok a5) (r6:au h v6 a6 F6) (k6:Cel.ok a6) (k7:Cel.ok a7) (r8:Cel.rep h a8 c8 F8) (k8:Cel.ok a8) (r9:au h v9 a9 F9) (k9:Cel.ok a9) (r10:au h v10 a10 F10) (k10:Cel.ok a10) (r11:au h v11 a11 F11) (k11:Cel.ok a11) (r12:au h v12 a12 F12) (k12:Cel.ok a12) (r13:au h v13 a13 F13) (k13:Cel.ok a13) (k14:Cel.ok a14):∃ x:Wld,Cel.rep h x (c0++([.int .i64 a1]++([.bool a2]++([v3]++([.int .i64 a4]++(c5++([v6]++([.int .i64 a7]++(c8++([v9]++([v10]++([v11]++([v12]++([v13]++([.int .i64 a14]++[]))))))))))))))) (F0++([]++([]++(F3++([]++(F5++(F6++([]++(F8++(F9++(F10++(F11++(F12++(F13++([]++[])))))))))))))))∧Cel.ok x:=by
 obtain⟨w0,rfl,q0⟩:=r0
 obtain⟨rfl,rfl⟩:=r5
 obtain⟨am8,am7,am6,an8,an7,an6,rfl,rfl,anu,ant,anr⟩:=r8
 exact⟨⟨a0,a1,a2,a3,a4,a5,a6,a7,a8,a9,a10,a11,a12,a13,a14⟩,⟨w0,v3,v6,am8,am7,am6,v9,v10,v11,v12,v13,F0,F3,F6,an8,an7,an6,F9,F10,F11,F12,F13,rfl,by simp,q0,r3,r6,anu,ant,anr,r9,r10,r11,r12,r13⟩,⟨k0,trivial,k3,trivial,k5,k6,trivial,k8,k9,k10,k11,k12,k13,k14⟩⟩
end Go.Ab
end
section
namespace Go.Ab
open Go.RowKit
def Zf:Nat→Nat→List UInt8
 |0,_=>[]
 |fuel+1,k=>if k=0 then[] else Zf fuel (k / 10)++[UInt8.ofNat (48+k % 10)]
def Cg (k:Int):ByteArray:=if k≤0 then⟨#[109,48]⟩ else⟨(109::Zf k.toNat k.toNat).toArray⟩
inductive FV:Type 1 where
 |i (n:Int)
 |b (x:Bool)
 |s (x:ByteArray)
 |l {β:Type} (c:Cel β) (m:Mk β) (xs:List β)
def CO (h:AH):List FV→List AV→List Nat→Prop
 |[],cs,F=>cs=[]∧F=[]
 | .i n::fs,cs,F=>∃ d,cs= .int .i64 n::d∧CO h fs d F
 | .b n::fs,cs,F=>∃ d,cs= .bool n::d∧CO h fs d F
 | .s n::fs,cs,F=>∃ d,cs= .str n::d∧CO h fs d F
 | .l c _ xs::fs,cs,F=>∃ v d F1 F2,cs=v::d∧F=F1++F2∧au h v xs F1∧CO h fs d F2
def jS:Int→List FV→List FV × Int
 |m,[]=>([],m)
 |m,.i _::fs=>(.i m::(jS (m+1) fs).1,(jS (m+1) fs).2)
 |m,.b _::fs=>(.b (decide (m.tmod 3=0))::(jS (m+1) fs).1,(jS (m+1) fs).2)
 |m,.s _::fs=>(.s (Cg m)::(jS (m+1) fs).1,(jS (m+1) fs).2)
 |m,.l c k xs::fs=>(.l c k (mks m xs).1::(jS (mks m xs).2 fs).1,(jS (mks m xs).2 fs).2)
def UpF:List FV→Prop
 |[]=>True
 | .l _ k xs::fs=>(∀ m,m≤(mks m xs).2)∧UpF fs
 |_::fs=>UpF fs
class Fld (α:Type) [Cel α] [Mk α] where
 f:α→List FV
 rep:∀ (h:AH) (x:α) (cs:List AV) (F:List Nat),Cel.rep h x cs F↔CO h (f x) cs F
 put:∀ (m:Int) (x:α),f (Mk.put m x).1=(jS m (f x)).1∧(Mk.put m x).2=(jS m (f x)).2
 ups:∀ x,UpF (f x)
class ao3 (α:Type) [Mk α] where
 up:∀ (m:Int) (x:α),m≤(Mk.put m x).2
theorem Bu:∀ (fs:List FV) (m:Int),UpF fs→m≤(jS m fs).2
 |[],m,_=>by simp[jS]
 | .i _::fs,m,u=>by have:=Bu fs (m+1) u;simp only[jS];omega
 | .b _::fs,m,u=>by have:=Bu fs (m+1) u;simp only[jS];omega
 | .s _::fs,m,u=>by have:=Bu fs (m+1) u;simp only[jS];omega
 | .l c k xs::fs,m,u=>by have:=u.1 m;have:=Bu fs (mks m xs).2 u.2;simp only[jS];omega
inductive MKd where
 |i
 |b
 |s (f:FuncId)
 |l (f:FuncId)
section
variable{P:Program} {h h':AH} {Q:Nat→List AV→AH→Prop}
theorem Kp.mono {X Y:List Nat} (k:Kp h h' X) (hs:∀ b∈X,b∈Y):Kp h h' Y:=⟨k.1,fun b hb hn=>k.2 b hb fun hx=>hn (hs b hx)⟩
end
section
variable{α:Type} [Cel α] [Mk α] [Fld α]
theorem alW (m:Int) (x:α):m≤(Mk.put m x).2:=by rw[(Fld.put m x).2];exact Bu _ _ (Fld.ups x)
theorem qA:∀ (xs:List α) (m:Int),m≤(mks m xs).2
 |[],m=>by simp[mks]
 |x::xs,m=>by
  have:=alW m x
  have:=qA xs (Mk.put m x).2
  simp only[mks];omega
end
section
variable{α:Type} [Cel α] {P:Program} {h:AH}
end
section
variable{α:Type} [Cel α] [Mk α] [Fld α] {P:Program} {h:AH}
end
end Go.Ab
end
section
namespace Go.Ab
open Go.RowKit
class Cnt (α:Type) [Mk α] [Sz α]:Prop where
 cnt:∀ (m:Int) (x:α),(Mk.put m x).2≤m+32 * (1+((Sz.sz x:Nat):Int))
theorem qm {α:Type} [Mk α] [Sz α] [Cnt α]:∀ (xs:List α) (m:Int),(mks m xs).2≤m+32 * ((xs.length+szs xs:Nat):Int)
 |[],m=>by simp[mks,szs]
 |x::xs,m=>by
  have:=Cnt.cnt m x
  have:=qm xs (Mk.put m x).2
  simp only[mks,szs,List.length_cons];omega
instance:Sz Int:=⟨fun _=>0⟩
instance:Mk Int:=⟨fun m _=>(m,m+1)⟩
instance:Flat Int where
 toCel:=inferInstance
 enc:=fun x=>[.int .i64 x]
 dw:=Iff.rfl
instance:Fld Int where
 f:=fun x=>[.i x]
 rep:=by
  intro h x cs F
  constructor
  ·rintro⟨rfl,rfl⟩;exact⟨_,rfl,rfl,rfl⟩
  ·rintro⟨_,rfl,rfl,rfl⟩;exact⟨rfl,rfl⟩
 put:=fun m x=>⟨rfl,rfl⟩
 ups:=fun x=>trivial
instance:Cnt Int:=⟨fun m x=>by show m+1≤_;simp only[Sz.sz];omega⟩
instance:Flat bJ where
 toCel:=inferInstance
 enc:=bJ.cs
 dw:=Iff.rfl
instance{α:Type} [Sz α]:Sz (List α):=⟨fun xs=>xs.length+szs xs⟩
instance{α:Type} [Mk α]:Mk (List α):=⟨fun m xs=>mks m xs⟩
instance{α:Type} [Cel α] [Mk α] [Fld α]:Fld (List α) where
 f:=fun x=>[.l inferInstance inferInstance x]
 rep:=by
  intro h x cs F
  constructor
  ·rintro⟨v,rfl,r⟩;exact⟨v,_,F,[],rfl,by simp,r,rfl,rfl⟩
  ·rintro⟨v,_,F1,F2,rfl,rfl,r,rfl,rfl⟩;exact⟨v,rfl,by simpa using r⟩
 put:=fun m x=>⟨rfl,rfl⟩
 ups:=fun x=>⟨fun m=>qA _ m,trivial⟩
instance{α:Type} [Mk α] [Sz α] [Cnt α]:Cnt (List α):=⟨fun m x=>by
 have:=qm x m
 show(mks m x).2≤m+32 * (1+((x.length+szs x:Nat):Int))
 omega⟩
mutual
def Pol.szP:Pol→Nat
 | .mk _ _ s t l=>s.size+t.size+(l.length+Pol.wI l)
def Pol.wI:List Pol→Nat
 |[]=>0
 |p::ps=>Pol.szP p+Pol.wI ps
end
instance:Sz Pol:=⟨Pol.szP⟩
theorem Pol.Yj:∀ (l:List Pol),szs l=Pol.wI l
 |[]=>rfl
 |p::ps=>by simp only[szs,Pol.wI,Pol.Yj ps];rfl
theorem Pol.tZ (x:Pol):Sz.sz x=x.key.size+x.text.size+(x.l.length+szs x.l):=by
 cases x with
 |mk k n s t l=>rw[Pol.Yj];rfl
mutual
def Pol.pJ:Int→Pol→Pol × Int
 |m,.mk _ _ _ _ l=>(.mk m (m+1) (Cg (m+1+1)) (Cg (m+1+1+1)) (Pol.mY (m+1+1+1+1) l).1,(Pol.mY (m+1+1+1+1) l).2)
def Pol.mY:Int→List Pol→List Pol × Int
 |m,[]=>([],m)
 |m,p::ps=>((Pol.pJ m p).1::(Pol.mY (Pol.pJ m p).2 ps).1,(Pol.mY (Pol.pJ m p).2 ps).2)
end
instance:Mk Pol:=⟨Pol.pJ⟩
theorem Pol.MI:∀ (l:List Pol) (m:Int),mks m l=Pol.mY m l
 |[],m=>rfl
 |p::ps,m=>by simp only[mks,Pol.mY,Pol.MI ps];rfl
mutual
theorem Pol.up_:∀ (x:Pol) (m:Int),m≤(Pol.pJ m x).2
 | .mk k n s t l,m=>by have:=Pol.Nn l (m+1+1+1+1);simp only[Pol.pJ];omega
theorem Pol.Nn:∀ (x:List Pol) (m:Int),m≤(Pol.mY m x).2
 |[],m=>by simp[Pol.mY]
 |p::ps,m=>by have:=Pol.up_ p m;have:=Pol.Nn ps (Pol.pJ m p).2;simp only[Pol.mY];omega
end
instance:Fld Pol where
 f:=fun x=>[.i x.kind,.i x.n,.s x.key,.s x.text,.l inferInstance inferInstance x.l]
 rep:=by
  intro h x cs F
  rw[Pol.dw]
  constructor
  ·rintro⟨v0,rfl,r0⟩;exact⟨_,rfl,_,rfl,_,rfl,_,rfl,v0,_,F,[],rfl,by simp,r0,rfl,rfl⟩
  ·rintro⟨_,rfl,_,rfl,_,rfl,_,rfl,v0,_,F0,_,rfl,rfl,r0,rfl,rfl⟩;exact⟨v0,rfl,by simpa using r0⟩
 put:=fun m x=>by
  cases x with
  |mk k n s t l=>simp only[jS,Pol.l,Pol.MI];exact⟨rfl,rfl⟩
 ups:=fun x=>⟨fun m=>by rw[Pol.MI];exact Pol.Nn _ _,trivial⟩
mutual
theorem Pol.Zu:∀ (x:Pol) (m:Int),(Pol.pJ m x).2≤m+32 * (1+((Pol.szP x:Nat):Int))
 | .mk k n s t l,m=>by have:=Pol.Y1 l (m+1+1+1+1);simp only[Pol.pJ,Pol.szP];omega
theorem Pol.Y1:∀ (x:List Pol) (m:Int),(Pol.mY m x).2≤m+32 * ((x.length+Pol.wI x:Nat):Int)
 |[],m=>by simp[Pol.mY,Pol.wI]
 |p::ps,m=>by have:=Pol.Zu p m;have:=Pol.Y1 ps (Pol.pJ m p).2;simp only[Pol.mY,Pol.wI,List.length_cons];omega
end
instance:Cnt Pol:=⟨fun m x=>Pol.Zu x m⟩
instance:Sz bJ:=⟨fun x=>0⟩
instance:Mk bJ:=⟨fun m x=>(⟨m,m+1,decide ((m+1+1).tmod 3=0)⟩,m+1+1+1)⟩
instance:Fld bJ where
 f:=fun x=>[.i x.trace,.i x.stamp,.b x.keep]
 rep:=by
  intro h x cs F
  constructor
  ·rintro⟨rfl,rfl⟩;exact⟨_,rfl,⟨_,rfl,⟨_,rfl,⟨rfl,rfl⟩⟩⟩⟩
  ·rintro⟨_,rfl,⟨_,rfl,⟨_,rfl,⟨rfl,rfl⟩⟩⟩⟩;exact⟨rfl,rfl⟩
 put:=fun m x=>⟨rfl,rfl⟩
 ups:=fun x=>trivial
instance:Cnt bJ:=⟨fun m x=>by
 show m+1+1+1≤m+32 * (1+((0:Nat):Int))
 omega⟩
instance:Sz Attr:=⟨fun x=>x.key.size+x.text.size⟩
instance:Mk Attr:=⟨fun m x=>(⟨Cg (m),decide ((m+1).tmod 3=0),m+1+1,Cg (m+1+1+1)⟩,m+1+1+1+1)⟩
instance:Fld Attr where
 f:=fun x=>[.s x.key,.b x.num,.i x.n,.s x.text]
 rep:=by
  intro h x cs F
  constructor
  ·rintro⟨rfl,rfl⟩;exact⟨_,rfl,⟨_,rfl,⟨_,rfl,⟨_,rfl,⟨rfl,rfl⟩⟩⟩⟩⟩
  ·rintro⟨_,rfl,⟨_,rfl,⟨_,rfl,⟨_,rfl,⟨rfl,rfl⟩⟩⟩⟩⟩;exact⟨rfl,rfl⟩
 put:=fun m x=>⟨rfl,rfl⟩
 ups:=fun x=>trivial
instance:Cnt Attr:=⟨fun m x=>by
 show m+1+1+1+1≤m+32 * (1+((x.key.size+x.text.size:Nat):Int))
 omega⟩
instance:Sz Span:=⟨fun x=>(x.attrs.length+szs x.attrs)⟩
instance:Mk Span:=⟨fun m x=>(⟨m,m+1,m+1+1,m+1+1+1,decide ((m+1+1+1+1).tmod 3=0),(mks (m+1+1+1+1+1) x.attrs).1⟩,(mks (m+1+1+1+1+1) x.attrs).2)⟩
instance:Fld Span where
 f:=fun x=>[.i x.trace,.i x.id,.i x.start,.i x.fin,.b x.err,.l inferInstance inferInstance x.attrs]
 rep:=by
  intro h x cs F
  constructor
  ·rintro⟨v0,rfl,r0⟩;exact⟨_,rfl,⟨_,rfl,⟨_,rfl,⟨_,rfl,⟨_,rfl,⟨v0,_,F,[],rfl,by simp,r0,⟨rfl,rfl⟩⟩⟩⟩⟩⟩⟩
  ·rintro⟨_,rfl,⟨_,rfl,⟨_,rfl,⟨_,rfl,⟨_,rfl,⟨v0,_,F0,_,rfl,rfl,r0,⟨rfl,rfl⟩⟩⟩⟩⟩⟩⟩;exact⟨v0,rfl,by simpa using r0⟩
 put:=fun m x=>⟨rfl,rfl⟩
 ups:=fun x=>⟨fun m=>qA _ m,trivial⟩
instance:Cnt Span:=⟨fun m x=>by
 show(mks (m+1+1+1+1+1) x.attrs).2≤m+32 * (1+(((x.attrs.length+szs x.attrs):Nat):Int))
 have:=qm x.attrs (m+1+1+1+1+1)
 omega⟩
instance:Sz Timer:=⟨fun x=>0⟩
instance:Mk Timer:=⟨fun m x=>(⟨m,m+1,m+1+1⟩,m+1+1+1)⟩
instance:Fld Timer where
 f:=fun x=>[.i x.id,.i x.trace,.i x.at_]
 rep:=by
  intro h x cs F
  constructor
  ·rintro⟨rfl,rfl⟩;exact⟨_,rfl,⟨_,rfl,⟨_,rfl,⟨rfl,rfl⟩⟩⟩⟩
  ·rintro⟨_,rfl,⟨_,rfl,⟨_,rfl,⟨rfl,rfl⟩⟩⟩⟩;exact⟨rfl,rfl⟩
 put:=fun m x=>⟨rfl,rfl⟩
 ups:=fun x=>trivial
instance:Cnt Timer:=⟨fun m x=>by
 show m+1+1+1≤m+32 * (1+((0:Nat):Int))
 omega⟩
instance:Sz Trail:=⟨fun x=>(x.spans.length+szs x.spans)⟩
instance:Mk Trail:=⟨fun m x=>(⟨m,m+1,m+1+1,(mks (m+1+1+1) x.spans).1⟩,(mks (m+1+1+1) x.spans).2)⟩
instance:Fld Trail where
 f:=fun x=>[.i x.id,.i x.stamp,.i x.first,.l inferInstance inferInstance x.spans]
 rep:=by
  intro h x cs F
  constructor
  ·rintro⟨v0,rfl,r0⟩;exact⟨_,rfl,⟨_,rfl,⟨_,rfl,⟨v0,_,F,[],rfl,by simp,r0,⟨rfl,rfl⟩⟩⟩⟩⟩
  ·rintro⟨_,rfl,⟨_,rfl,⟨_,rfl,⟨v0,_,F0,_,rfl,rfl,r0,⟨rfl,rfl⟩⟩⟩⟩⟩;exact⟨v0,rfl,by simpa using r0⟩
 put:=fun m x=>⟨rfl,rfl⟩
 ups:=fun x=>⟨fun m=>qA _ m,trivial⟩
instance:Cnt Trail:=⟨fun m x=>by
 show(mks (m+1+1+1) x.spans).2≤m+32 * (1+(((x.spans.length+szs x.spans):Nat):Int))
 have:=qm x.spans (m+1+1+1)
 omega⟩
instance:Sz aQ:=⟨fun x=>(x.l.length+szs x.l)⟩
instance:Mk aQ:=⟨fun m x=>(⟨m,(mks (m+1) x.l).1⟩,(mks (m+1) x.l).2)⟩
instance:Fld aQ where
 f:=fun x=>[.i x.held,.l inferInstance inferInstance x.l]
 rep:=by
  intro h x cs F
  constructor
  ·rintro⟨v0,rfl,r0⟩;exact⟨_,rfl,⟨v0,_,F,[],rfl,by simp,r0,⟨rfl,rfl⟩⟩⟩
  ·rintro⟨_,rfl,⟨v0,_,F0,_,rfl,rfl,r0,⟨rfl,rfl⟩⟩⟩;exact⟨v0,rfl,by simpa using r0⟩
 put:=fun m x=>⟨rfl,rfl⟩
 ups:=fun x=>⟨fun m=>qA _ m,trivial⟩
instance:Cnt aQ:=⟨fun m x=>by
 show(mks (m+1) x.l).2≤m+32 * (1+(((x.l.length+szs x.l):Nat):Int))
 have:=qm x.l (m+1)
 omega⟩
instance:Sz Itm:=⟨fun x=>Sz.sz x.s⟩
instance:Mk Itm:=⟨fun m x=>(⟨m,⟨m+1,m+1+1,m+1+1+1,m+1+1+1+1,decide ((m+1+1+1+1+1).tmod 3=0),(mks (m+1+1+1+1+1+1) x.s.attrs).1⟩⟩,(mks (m+1+1+1+1+1+1) x.s.attrs).2)⟩
instance:Fld Itm where
 f:=fun x=>[.i x.stamp,.i x.s.trace,.i x.s.id,.i x.s.start,.i x.s.fin,.b x.s.err,.l inferInstance inferInstance x.s.attrs]
 rep:=by
  intro h x cs F
  constructor
  ·rintro⟨v0,rfl,r0⟩;exact⟨_,rfl,⟨_,rfl,⟨_,rfl,⟨_,rfl,⟨_,rfl,⟨_,rfl,⟨v0,_,F,[],rfl,by simp,r0,⟨rfl,rfl⟩⟩⟩⟩⟩⟩⟩⟩
  ·rintro⟨_,rfl,⟨_,rfl,⟨_,rfl,⟨_,rfl,⟨_,rfl,⟨_,rfl,⟨v0,_,F0,_,rfl,rfl,r0,⟨rfl,rfl⟩⟩⟩⟩⟩⟩⟩⟩;exact⟨v0,rfl,by simpa using r0⟩
 put:=fun m x=>⟨rfl,rfl⟩
 ups:=fun x=>⟨fun m=>qA _ m,trivial⟩
instance:Cnt Itm:=⟨fun m x=>by
 show(mks (m+1+1+1+1+1+1) x.s.attrs).2≤m+32 * (1+((Sz.sz x.s:Nat):Int))
 have:=qm x.s.attrs (m+1+1+1+1+1+1)
 have e_s:Sz.sz x.s=(x.s.attrs.length+szs x.s.attrs):=rfl
 omega⟩
instance:Sz Task:=⟨fun x=>Sz.sz x.s+(x.hand.length+szs x.hand)⟩
instance:Mk Task:=⟨fun m x=>(⟨m,m+1,⟨m+1+1,m+1+1+1,m+1+1+1+1,m+1+1+1+1+1,decide ((m+1+1+1+1+1+1).tmod 3=0),(mks (m+1+1+1+1+1+1+1) x.s.attrs).1⟩,(mks (m+1+1+1+1+1+1+1) x.s.attrs).2,(mks (m+1+1+1+1+1+1+1) x.s.attrs).2+1,(mks ((mks (m+1+1+1+1+1+1+1) x.s.attrs).2+1+1) x.hand).1,(mks ((mks (m+1+1+1+1+1+1+1) x.s.attrs).2+1+1) x.hand).2⟩,(mks ((mks (m+1+1+1+1+1+1+1) x.s.attrs).2+1+1) x.hand).2+1)⟩
instance:Fld Task where
 f:=fun x=>[.i x.op,.i x.pc,.i x.s.trace,.i x.s.id,.i x.s.start,.i x.s.fin,.b x.s.err,.l inferInstance inferInstance x.s.attrs,.i x.trace,.i x.stamp,.l inferInstance inferInstance x.hand,.i x.h]
 rep:=by
  intro h x cs F
  constructor
  ·rintro⟨v0,v1,F0,F1,rfl,rfl,r0,r1⟩;exact⟨_,rfl,⟨_,rfl,⟨_,rfl,⟨_,rfl,⟨_,rfl,⟨_,rfl,⟨_,rfl,⟨v0,_,F0,F1++[],rfl,by simp,r0,⟨_,rfl,⟨_,rfl,⟨v1,_,F1,[],rfl,by simp,r1,⟨_,rfl,⟨rfl,rfl⟩⟩⟩⟩⟩⟩⟩⟩⟩⟩⟩⟩⟩
  ·rintro⟨_,rfl,⟨_,rfl,⟨_,rfl,⟨_,rfl,⟨_,rfl,⟨_,rfl,⟨_,rfl,⟨v0,_,F0,_,rfl,rfl,r0,⟨_,rfl,⟨_,rfl,⟨v1,_,F1,_,rfl,rfl,r1,⟨_,rfl,⟨rfl,rfl⟩⟩⟩⟩⟩⟩⟩⟩⟩⟩⟩⟩⟩;exact⟨v0,v1,F0,F1,rfl,by simp,r0,r1⟩
 put:=fun m x=>⟨rfl,rfl⟩
 ups:=fun x=>⟨fun m=>qA _ m,⟨fun m=>qA _ m,trivial⟩⟩
instance:Cnt Task:=⟨fun m x=>by
 show(mks ((mks (m+1+1+1+1+1+1+1) x.s.attrs).2+1+1) x.hand).2+1≤m+32 * (1+((Sz.sz x.s+(x.hand.length+szs x.hand):Nat):Int))
 have:=qm x.s.attrs (m+1+1+1+1+1+1+1)
 have:=qm x.hand ((mks (m+1+1+1+1+1+1+1) x.s.attrs).2+1+1)
 have e_s:Sz.sz x.s=(x.s.attrs.length+szs x.s.attrs):=rfl
 omega⟩
instance:Sz bI:=⟨fun x=>Sz.sz x.s⟩
instance:Mk bI:=⟨fun m x=>(⟨m,m+1,⟨m+1+1,m+1+1+1,m+1+1+1+1,m+1+1+1+1+1,decide ((m+1+1+1+1+1+1).tmod 3=0),(mks (m+1+1+1+1+1+1+1) x.s.attrs).1⟩,(mks (m+1+1+1+1+1+1+1) x.s.attrs).2,(mks (m+1+1+1+1+1+1+1) x.s.attrs).2+1,(mks (m+1+1+1+1+1+1+1) x.s.attrs).2+1+1,decide (((mks (m+1+1+1+1+1+1+1) x.s.attrs).2+1+1+1).tmod 3=0),decide (((mks (m+1+1+1+1+1+1+1) x.s.attrs).2+1+1+1+1).tmod 3=0),(mks (m+1+1+1+1+1+1+1) x.s.attrs).2+1+1+1+1+1,(mks (m+1+1+1+1+1+1+1) x.s.attrs).2+1+1+1+1+1+1,(mks (m+1+1+1+1+1+1+1) x.s.attrs).2+1+1+1+1+1+1+1,(mks (m+1+1+1+1+1+1+1) x.s.attrs).2+1+1+1+1+1+1+1+1,(mks (m+1+1+1+1+1+1+1) x.s.attrs).2+1+1+1+1+1+1+1+1+1,(mks (m+1+1+1+1+1+1+1) x.s.attrs).2+1+1+1+1+1+1+1+1+1+1,(mks (m+1+1+1+1+1+1+1) x.s.attrs).2+1+1+1+1+1+1+1+1+1+1+1⟩,(mks (m+1+1+1+1+1+1+1) x.s.attrs).2+1+1+1+1+1+1+1+1+1+1+1+1)⟩
instance:Fld bI where
 f:=fun x=>[.i x.op,.i x.task,.i x.s.trace,.i x.s.id,.i x.s.start,.i x.s.fin,.b x.s.err,.l inferInstance inferInstance x.s.attrs,.i x.trace,.i x.stamp,.i x.code,.b x.keep,.b x.void,.i x.took,.i x.n,.i x.forgot,.i x.now,.i x.inv,.i x.lin,.i x.res]
 rep:=by
  intro h x cs F
  constructor
  ·rintro⟨v0,rfl,r0⟩;exact⟨_,rfl,⟨_,rfl,⟨_,rfl,⟨_,rfl,⟨_,rfl,⟨_,rfl,⟨_,rfl,⟨v0,_,F,[],rfl,by simp,r0,⟨_,rfl,⟨_,rfl,⟨_,rfl,⟨_,rfl,⟨_,rfl,⟨_,rfl,⟨_,rfl,⟨_,rfl,⟨_,rfl,⟨_,rfl,⟨_,rfl,⟨_,rfl,⟨rfl,rfl⟩⟩⟩⟩⟩⟩⟩⟩⟩⟩⟩⟩⟩⟩⟩⟩⟩⟩⟩⟩⟩
  ·rintro⟨_,rfl,⟨_,rfl,⟨_,rfl,⟨_,rfl,⟨_,rfl,⟨_,rfl,⟨_,rfl,⟨v0,_,F0,_,rfl,rfl,r0,⟨_,rfl,⟨_,rfl,⟨_,rfl,⟨_,rfl,⟨_,rfl,⟨_,rfl,⟨_,rfl,⟨_,rfl,⟨_,rfl,⟨_,rfl,⟨_,rfl,⟨_,rfl,⟨rfl,rfl⟩⟩⟩⟩⟩⟩⟩⟩⟩⟩⟩⟩⟩⟩⟩⟩⟩⟩⟩⟩⟩;exact⟨v0,rfl,by simpa using r0⟩
 put:=fun m x=>⟨rfl,rfl⟩
 ups:=fun x=>⟨fun m=>qA _ m,trivial⟩
instance:Cnt bI:=⟨fun m x=>by
 show(mks (m+1+1+1+1+1+1+1) x.s.attrs).2+1+1+1+1+1+1+1+1+1+1+1+1≤m+32 * (1+((Sz.sz x.s:Nat):Int))
 have:=qm x.s.attrs (m+1+1+1+1+1+1+1)
 have e_s:Sz.sz x.s=(x.s.attrs.length+szs x.s.attrs):=rfl
 omega⟩
instance:Sz Bucket:=⟨fun x=>0⟩
instance:Sz bX:=⟨fun x=>(x.near.length+szs x.near)+(x.far.length+szs x.far)+(x.rest.length+szs x.rest)⟩
instance:Sz iL:=⟨fun x=>Sz.sz x.rule⟩
instance:Sz Wld:=⟨fun x=>Sz.sz x.c+(x.st.length+szs x.st)+(x.cache.length+szs x.cache)+Sz.sz x.w+(x.due.length+szs x.due)+(x.queue.length+szs x.queue)+(x.out.length+szs x.out)+(x.tasks.length+szs x.tasks)+(x.aF.length+szs x.aF)⟩
end Go.Ab
end
section
namespace Go.Ab
open Go.RowKit
section
variable{h h':AH}
theorem pv {a b:AV} (e:a=b) (x:Ext h h':=by exact aD):(1:Nat)=1∧[a]=[b]∧Ext h h':=⟨rfl,by rw[e],x⟩
theorem pb {a b:Bool} (e:a=b) (x:Ext h h':=by exact aD):(1:Nat)=1∧[AV.bool a]=[AV.bool b]∧Ext h h':=⟨rfl,by rw[e],x⟩
theorem pi {a b:Int} {q:IntKind} (e:a=b) (x:Ext h h':=by exact aD):(1:Nat)=1∧[AV.int q a]=[AV.int q b]∧Ext h h':=⟨rfl,by rw[e],x⟩
theorem pt {p:Prop} (e:p) (x:Ext h h':=by exact aD):(1:Nat)=1∧[AV.bool true]=[AV.bool (bp p)]∧Ext h h':=⟨rfl,by rw[fI e],x⟩
theorem pf {p:Prop} (e: ¬ p) (x:Ext h h':=by exact aD):(1:Nat)=1∧[AV.bool false]=[AV.bool (bp p)]∧Ext h h':=⟨rfl,by rw[gu e],x⟩
end
theorem Nj {p:Prop} {b:Bool} (h:b=true↔p):b=bp p:=by
 by_cases hp:p
 ·rw[fI hp];exact h.2 hp
 ·rw[gu hp];cases b
  ·rfl
  ·exact absurd (h.1 rfl) hp
theorem tH {p:Prop} (h:bp p=true):p:=MP.1 h
theorem Gr {p:Prop} (h:bp p=false): ¬ p:=fun hp=>by rw[fI hp] at h;cases h
section
variable{α:Type} {xs:List α} {p:Nat→α→Prop} {i:Nat} {y:α}
def cu (xs:List α) (p:Nat→α→Prop) (i:Nat):Prop:=∀ (j:Nat) (x:α),j < i→xs[j]? =some x→p j x
theorem up0:cu xs p 0:=fun j x hj=>by omega
theorem upS (h:cu xs p i) (hy:xs[i]? =some y) (hp:p i y):cu xs p (i+1):=fun j x hj hx=>by
 by_cases e:j=i
 ·subst e;rw[hy] at hx;cases hx;exact hp
 ·exact h j x (by omega) hx
theorem fV {p:α→Prop} (h:cu xs (fun _=>p) xs.length):∀ x∈xs,p x:=fun x hx=>by
 obtain⟨j,hj,e⟩:=List.getElem_of_mem hx
 exact h j x hj (by rw[List.getElem?_eq_getElem hj,e])
theorem kP (h:cu xs p xs.length):∀ j x,xs[j]? =some x→p j x:=fun j x hx=>h j x (List.getElem?_eq_some_iff.1 hx).1 hx
theorem jP {p:α→Prop} (hy:xs[i]? =some y) (hp: ¬ p y): ¬ ∀ x∈xs,p x:=fun h=>hp (h y (List.mem_of_getElem? hy))
end
section
variable{α:Type} [Cel α] {P:Program} {h h0:AH} {Q:Nat→List AV→AH→Prop} {k:AV→Prog}
theorem ixg {v:AV} {xs:List α} {F:List Nat} {es i:Nat} {q:IntKind} (hk:∀ x,xs[i]? =some x→∀ b o cs Fi,At h0 b o cs→Cel.rep h0 x cs Fi→(∀ y∈Fi,y∈F)→(k (.ptr b o)).awp P h Q) (r:au h0 v xs F:=by assumption) (hi:i < xs.length:=by omega) (hw:es=Cel.w α:=by rfl):(Prog.op (.idx es v (.int q i)) k).awp P h Q:=
 bV r (List.getElem?_eq_getElem hi) hw (hk _ (List.getElem?_eq_getElem hi))
theorem ku {v:AV} {xs:List α} {F:List Nat} {es:Nat} {i:Int} {q:IntKind} (hk:∀ x,xs[i.toNat]? =some x→∀ b o cs Fi,At h0 b o cs→Cel.rep h0 x cs Fi→(∀ y∈Fi,y∈F)→(k (.ptr b o)).awp P h Q) (r:au h0 v xs F:=by assumption) (h1:0≤i:=by omega) (hi:i.toNat < xs.length:=by omega) (hw:es=Cel.w α:=by rfl):(Prog.op (.idx es v (.int q i)) k).awp P h Q:=
 vV r h1 (List.getElem?_eq_getElem hi) hw (hk _ (List.getElem?_eq_getElem hi))
end
section
variable{P:Program} {h:AH} {Q:Nat→List AV→AH→Prop} {k:AV→Prog}
theorem amZ {p:Prog} (x':p.awp P h Q):p.awp P h Q:=x'
theorem aA (f:FuncId) {l:List AV} (x':(Prog.op (.call f l) k).awp P h Q):(Prog.op (.call f l) k).awp P h Q:=x'
theorem Mt {f:AV} {l:List AV} (x':(Prog.op (.iC f l) k).awp P h Q):(Prog.op (.iC f l) k).awp P h Q:=x'
end
def bys (s:ByteArray):List UInt8:=s.data.toList
theorem BF (s:ByteArray):(bys s).length=s.size:=by show s.data.toList.length=s.data.size;simp
theorem XW (s:ByteArray) (i:Nat):s[i]? =(bys s)[i]? :=by
 unfold bys
 rw[Array.getElem?_toList]
 by_cases h:i < s.size
 ·rw[getElem?_pos s i h,Array.getElem?_eq_getElem (by simpa using h)];rfl
 ·rw[getElem?_neg s i h,Array.getElem?_eq_none (by simpa using h)]
section
variable{P:Program} {h:AH} {Q:Nat→List AV→AH→Prop} {k:AV→Prog}
theorem sx {s:ByteArray} {i:Nat} {q:IntKind} (hk:∀ c:UInt8,(bys s)[i]? =some c→(k (.int .u8 (c.toNat:Int))).awp P h Q) (hi:i < s.size:=by omega):(Prog.op (.jR (.str s) (.int q i)) k).awp P h Q:=by
 have hb:=BF s
 simp only[Prog.awp,AOp.go]
 refine⟨Int.natCast_nonneg _,(bys s)[i]'(by omega),?_,hk _ (List.getElem?_eq_getElem (by omega))⟩
 rw[Int.toNat_natCast,XW]
 exact List.getElem?_eq_getElem (by omega)
theorem sx1 {s:ByteArray} {i:Nat} {q:IntKind} {c:UInt8} (hc:(bys s)[i]? =some c) (hk:(k (.int .u8 (c.toNat:Int))).awp P h Q):(Prog.op (.jR (.str s) (.int q i)) k).awp P h Q:=by
 simp only[Prog.awp,AOp.go]
 refine⟨Int.natCast_nonneg _,c,?_,hk⟩
 rw[Int.toNat_natCast,XW];exact hc
theorem Xf {c:UInt8} (hk:(k (.int .i64 (c.toNat:Int))).awp P h Q):(Prog.op (.conv .i64 (.int .u8 (c.toNat:Int))) k).awp P h Q:=by
 have hc:=c.toNat_lt
 refine alE ?_
 rw[kL (by omega) (by omega)];exact hk
theorem Yd {a b:ByteArray} (hk:(k (.bool (!(Op.bytesLess a.toList b.toList)))).awp P h Q):(Prog.op (.bin 1 .geq (.str a) (.str b)) k).awp P h Q:=hk
theorem Ye {a:ByteArray} (hk:(k (.bool false)).awp P h Q):(Prog.op (.bin 1 .neq (.str a) (.str a)) k).awp P h Q:=alv (fun h=>absurd rfl h) fun _=>hk
theorem Xe {q:IntKind} {a:Int} (hk:(k (.bool false)).awp P h Q):(Prog.op (.bin 0 .neq (.int q a) (.int q a)) k).awp P h Q:=Ca (fun h=>absurd rfl h) fun _=>hk
theorem Xg {a:Bool} (hk:(k (.bool false)).awp P h Q):(Prog.op (.bin 2 .neq (.bool a) (.bool a)) k).awp P h Q:=X4 (by simpa using hk)
theorem YD {a b:Int} (hk:(k (.int .i64 (max a b))).awp P h Q):(Prog.op (.mnx false [.int .i64 a,.int .i64 b]) k).awp P h Q:=by
 simp only[Prog.awp,AOp.go,uI,pE]
 have:(if a < b then b else a)=max a b:=by split<;>omega
 rw[if_neg (by decide),this];exact hk
theorem MV {a b:Int} (hk:(k (.int .i64 (min a b))).awp P h Q):(Prog.op (.mnx true [.int .i64 a,.int .i64 b]) k).awp P h Q:=by
 simp only[Prog.awp,AOp.go,uI,pE]
 have:(if b < a then b else a)=min a b:=by split<;>omega
 rw[if_pos trivial,this];exact hk
theorem jd {f:FuncId} {args:List AV} {b:Int} {s:Nat} (c:aM P f args h (.int .i64 (szr b s))) (h1: ¬ (s:Int)≤b→(k (.int .i64 (-1))).awp P h Q) (h2:(s:Int)≤b→(k (.int .i64 (b - s))).awp P h Q):(Prog.op (.call f args) k).awp P h Q:=by
 refine aJ c ?_
 unfold szr
 split
 ·rename_i e;exact h2 e
 ·rename_i e;exact h1 e
end
end Go.Ab
end
section
namespace Go.Ab
open Go.RowKit
theorem bC {α:Type} [Sz α]:∀ {xs:List α} {x:α},x∈xs→Sz.sz x≤szs xs
 |y::xs,x,h=>by
  rcases List.mem_cons.1 h with e|e
  ·subst e;simp[szs]
  ·have:=bC e;simp only[szs];omega
theorem LW {α:Type} [Sz α] (hz:∀ x:α,Sz.sz x=0):∀ xs:List α,szs xs=0
 |[]=>rfl
 |x::xs=>by simp only[szs,hz,LW hz xs]
section
variable{h:AH} {n m:Nat} {F G:List Nat}
theorem dA (o:Own n h (F++G)):Own n h F:=⟨(List.nodup_append.1 o.1).1,fun b hb=>o.2 b (List.mem_append_left _ hb)⟩
theorem bD (o:Own n h (F++G)):Own n h G:=⟨(List.nodup_append.1 o.1).2.1,fun b hb=>o.2 b (List.mem_append_right _ hb)⟩
theorem mZ (o:Own n h (F++G)):∀ c∈F,c ∉ G:=fun c h1 h2=>(List.nodup_append.1 o.1).2.2 c h1 c h2 rfl
theorem fK (o:Own n h F) (p:Own m h G) (hn:n≤m) (d:∀ c∈F,c ∉ G):Own n h (F++G):=
 ⟨List.nodup_append.2 ⟨o.1,p.1,fun a ha b hb e=>d a ha (e▸hb)⟩,fun b hb=>by
  rcases List.mem_append.1 hb with hb|hb
  ·exact o.2 b hb
  ·exact⟨Nat.le_trans hn (p.2 b hb).1,(p.2 b hb).2⟩⟩
end
theorem dK {h:AH} {n:Nat} {F G:List Nat} (r:bO n h F) (r':bO n h G) (d:∀ c∈F,c ∉ G):bO n h (F++G):=ama r r' (Nat.le_refl _) d
theorem cK {n:Nat} {h:AH} {F:List Nat} (r:bO n h F:=by(repeat(first|exact YS (by assumption) (by assumption) aO|with_reducible apply jO|with_reducible apply dN|((with_reducible apply iN);assumption)|((with_reducible apply dD);assumption)|exact vM|exact kK))):bO n h F:=r
def gG {α:Type} [Cel α] (P:Program) (c:FuncId) (xs:List α):Prop:=∀ (v:AV) (F:List Nat) (h:AH),au h v xs F→bN P c [v] h fun u h'=>Ext h h'∧∃ F',au h' u xs F'∧Own h.n h' F'
theorem qw {α:Type} [Cel α] [Sz α] {P:Program} {c e w bytes:Nat} {zero:List AV} (hw:w=Cel.w α) (hz:zero.length=w) (hb:bytes≤67108864) {xs:List α} (hs:xs.length+szs xs≤1048576)
  (hc:∀ x:α,Sz.sz x≤1048576→dO α P e x) (run:∀ {h:AH} {v:AV} {R:AV→AH→Prop},((Nu w bytes zero e v).awp P h fun t vs h'=>t=1∧∃ u,vs=[u]∧R u h')→bN P c [v] h R):gG P c xs:=by
 intro v F h r
 refine run (toSx_spec hw hz rfl (fun x hx=>hc x (by have:=bC hx;omega)) r ?_)
 have:xs.length * bytes≤1048576 * bytes:=Nat.mul_le_mul_right _ (by omega)
 omega
theorem mW {α:Type} [Cel α] [Sz α] {P:Program} {f:FuncId} (c:∀ xs:List α,xs.length+szs xs≤1048576→gG P f xs) {xs:List α} {v:AV} {F:List Nat} {h:AH} (r:au h v xs F) (hs:xs.length+szs xs≤1048576):bN P f [v] h fun u h'=>Ext h h'∧∃ F',au h' u xs F'∧Own h.n h' F':=c xs hs v F h r
def SzL (α:Type) [Cel α] [Sz α] (P:Program) (c:FuncId):Prop:=∀ (xs:List α) (_:∀ x∈xs,Cel.ok x) (v:AV) (F:List Nat) (b:Int) (h:AH),au h v xs F→0≤b→b≤1048576→aM P c [v,.int .i64 b] h (.int .i64 (szr b (xs.length+szs xs)))
theorem szl {α:Type} [Cel α] [Sz α] {P:Program} {f:FuncId} (c:SzL α P f) {xs:List α} {v:AV} {F:List Nat} {b:Int} {h:AH} (r:au h v xs F) (ok:∀ x∈xs,Cel.ok x) (h0:0≤b) (h1:b≤1048576):aM P f [v,.int .i64 b] h (.int .i64 (szr b (xs.length+szs xs))):=c xs ok v F b h r h0 h1
end Go.Ab
end
section
namespace Go.Ab
open Go.RowKit
def wS {α:Type} (xs ys:List α) (i:Nat):Prop:=∀ (j:Nat) (x y:α),j < i→xs[j]? =some x→ys[j]? =some y→x=y
section
variable{α:Type} {xs ys:List α} {i:Nat} {x y:α}
theorem eu0:wS xs ys 0:=fun j x y hj=>by omega
theorem euS (h:wS xs ys i) (hx:xs[i]? =some x) (hy:ys[i]? =some y) (e:x=y):wS xs ys (i+1):=fun j u w hj hu hw=>by
 by_cases e':j=i
 ·subst e';rw[hx] at hu;rw[hy] at hw;cases hu;cases hw;exact e
 ·exact h j u w (by omega) hu hw
theorem Nf (h:wS xs ys xs.length) (hl:xs.length=ys.length):xs=ys:=by
 apply List.ext_getElem hl
 intro j h1 h2
 exact h j _ _ h1 (List.getElem?_eq_getElem h1) (List.getElem?_eq_getElem h2)
theorem Nc (hx:xs[i]? =some x) (hy:ys[i]? =some y) (e: ¬ x=y): ¬ xs=ys:=fun k=>by
 subst k;rw[hx] at hy;cases hy;exact e rfl
end
def Zb (w:Nat) (zero:List AV) (x0 x1 x2:AV):Prog:=.op (.len 0 x0) fun v=>.op (.len 0 x1) fun v_1=>.op (.bin 0 .neq v v_1) fun v=>.ite v (.fin [.val (AV.bool false)]) (.op (.len 0 x0) fun v=>.loop [AV.int .i64 0] (fun vs=>.op (.bin 0 .lss (g vs 0) v) fun v=>.ite v (.op (.idx w x0 (g vs 0)) fun v=>.op (.ldn w v) fun v=>.op (.alloc zero) fun v_2=>.op (.st w v_2 v) fun v=>.op (.idx w x1 (g vs 0)) fun v=>.op (.ldn w v) fun v=>.op (.alloc zero) fun v_3=>.op (.st w v_3 v) fun v=>.op (.ldn w v_2) fun v=>.op (.ldn w v_3) fun v_4=>.op (.iC x2 [v,v_4]) fun v=>.op (.una .not v) fun v=>.ite v (.fin [.val (AV.bool false)]) (.op (.bin 0 .add (g vs 0) (AV.int .i64 1)) fun v=>.leaf 0 [v])) (.leaf 2 [g vs 0])) fun t vs=>aB t 1 (.leaf 1 vs) (aB t 2 (.fin [.val (AV.bool true)]) .bad))
theorem xO {zero cs:List AV} (h:zero.length=cs.length):splice zero 0 cs=cs:=by
 unfold splice;rw[List.drop_of_length_le (by omega)];simp
section
variable{α:Type} [Cel α] {P:Program} {h:AH}
theorem akJ {w:Nat} {zero:List AV} (hw:w=Cel.w α) (hz:zero.length=w) {xs ys:List α} {v0 v1:AV} {F G:List Nat} {f:FuncId} {caps:List AV} (r:au h v0 xs F) (r':au h v1 ys G)
  (hf:∀ x∈xs,∀ y,∀ (cs cs':List AV) (F F':List Nat) (h':AH),Ext h h'→Cel.rep h' x cs F→Cel.rep h' y cs' F'→aM P f ([.agg cs,.agg cs']++caps) h' (.bool (bp (x=y)))):
  (Zb w zero v0 v1 (.fn f caps)).awp P h (Post (.bool (bp (xs=ys))) h):=by
 subst hw
 have hpos:=Cel.pos (α:=α)
 have hsm:=r.small
 unfold Zb
 refine bP r (bP r' (Ca (fun hne=>?_) (fun heq=>?_)))
 ·exact dM (eY (pf (by intro k;subst k;exact hne rfl)))
 ·refine dP (bP r ?_)
  refine aT xs.length (fun i vs h1=>vs=[.int .i64 (i:Int)]∧i≤xs.length∧Ext h h1∧wS xs ys i) ⟨rfl,Nat.zero_le _,Ext.refl _,eu0⟩ ?_
  rintro i vs h1 _ ⟨rfl,hi,e1,hu⟩
  simp only[g0]
  refine iH (fun hlt=>dM ?_) (fun hge=>dP ?_)
  ·obtain⟨x,hx,-,-⟩:=aP (show i < xs.length by omega)
   obtain⟨y,hy,-,-⟩:=aP (show i < ys.length by omega)
   refine bV r hx rfl fun b o cs Fi a rx _=>?_
   have hl:=Cel.len rx
   refine jf a e1 hpos (List.take_of_length_le (by omega)) hl (jD (yL rfl hl (by omega) ?_))
   rw[xO (by omega)]
   refine bV r' hy rfl fun b' o' cs' Fi' a' ry _=>?_
   have hl':=Cel.len ry
   refine jf a' (e1.push _) hpos (List.take_of_length_le (by omega)) hl' (jD (yL rfl hl' (by omega) ?_))
   rw[xO (by omega)]
   refine jf (jY.push _) (Ext.refl _) hpos (List.take_of_length_le (by omega)) hl (jf jY (Ext.refl _) hpos (List.take_of_length_le (by omega)) hl' ?_)
   have e2:Ext h ((h1.push ⟨cs,0,0⟩).push ⟨cs',0,0⟩):=(e1.push _).push _
   refine sU (hf x (List.mem_of_getElem? hx) y cs cs' Fi Fi' _ e2 (iW rx e2) (iW ry e2)) (H9 ?_)
   refine yT (fun hp=>?_) (fun hp=>?_)
   ·exact eY (pf (Nc hx hy (Gr (by simpa using hp))) e2)
   ·exact jc (by omega) (dQ (jW ⟨by omega,rfl,by omega,e2,euS hu hx hy (tH (by simpa using hp))⟩))
  ·exact dQ (tJ (by decide) (qh (by decide) (qj (eY (pt (Nf (by rw[show i=xs.length by omega] at hu;exact hu) (by omega)) e1)))))
end
end Go.Ab
end
section
namespace Go.Ab
open Go.RowKit
section
variable{α:Type} [Cel α] {P:Program} {h:AH} {Q:Nat→List AV→AH→Prop} {k:AV→Prog}
theorem jy {w:Nat} (hw:w=Cel.w α):au (h.push ⟨[],w,0⟩) (.sl h.n 0 0) ([]:List α) [h.n]∧∀ n,n≤h.n→Own n (h.push ⟨[],w,0⟩) [h.n]:=by
 subst hw
 exact⟨lC (n:=0) rfl (by decide) ⟨rfl,rfl⟩,fun n hn=>mM hn rfl (by simp) Own.nil⟩
theorem iJ {n es bytes:Nat} {x:AV} {xs:List α} {a:α} {cs:List AV} {Fx G:List Nat} (rx:au h x xs Fx) (ra:Cel.rep h a cs G) (o:Own n h (Fx++G)) (hn:n≤h.n) (hw:es=Cel.w α) (hs:(xs.length+1) * bytes≤70368744177664) (hs2:xs.length+1 < 281474976710656)
  (hk:∀ v h' F',(∀ h0,Ext h0 h→h0.n≤n→Ext h0 h')→Kp h h' Fx→au h' v (xs++[a]) F'→Own n h' F'→(∀ c∈F',c∈Fx∨c∈G∨h.n≤c)→(k v).awp P h' Q):(Prog.op (.app es bytes x (.sl h.n 0 1)) k).awp P (h.push ⟨cs,es,0⟩) Q:=by
 subst hw
 have ry:=lC (n:=1) (xs:=[a]) rfl (by decide) (qo ra)
 refine vW (n:=n) (oQ rx) ry ?_ (by simp;omega) rfl (by simpa using hs) (by simpa using hs2) ?_
 ·simp only[List.tail_cons]
  refine o.ext ((Ext.refl h).push _) fun b hb=>?_
  rcases List.mem_append.1 hb with hb|hb
  ·exact rx.lt b hb
  ·exact Cel.lt ra b hb
 ·intro v h' F' kp r' o' hF
  have kp':Kp h h' Fx:=(Kp.iA ((Ext.refl h).push _)).trans kp
  refine hk v h' F' (fun h0 e hn0=>kp'.ext e fun b hb=>?_) kp' r' o' fun c hc=>?_
  ·have:=(o.2 b (List.mem_append_left _ hb)).1;omega
  ·rcases hF c hc with hc|hc|hc
   ·exact .inl hc
   ·exact .inr (.inl hc)
   ·exact .inr (.inr (Nat.le_trans (by simp) hc))
theorem app1 {n es bytes:Nat} {x:AV} {xs:List α} {a:α} {cs:List AV} {Fx G:List Nat} (rx:au h x xs Fx) (ra:Cel.rep h a cs G) (o:Own n h (Fx++G)) (hn:n≤h.n) (hw:es=Cel.w α) (hs:(xs.length+1) * bytes≤70368744177664) (hs2:xs.length+1 < 281474976710656)
  (hk:∀ v h' F',(∀ h0,Ext h0 h→h0.n≤n→Ext h0 h')→Kp h h' Fx→au h' v (xs++[a]) F'→Own n h' F'→(k v).awp P h' Q):(Prog.op (.app es bytes x (.sl h.n 0 1)) k).awp P (h.push ⟨cs,es,0⟩) Q:=by
 subst hw
 have ry:=lC (n:=1) (xs:=[a]) rfl (by decide) (qo ra)
 refine nP (n:=n) (oQ rx) ry ?_ (by simp;omega) rfl (by simpa using hs) (by simpa using hs2) ?_
 ·simp only[List.tail_cons]
  refine o.ext ((Ext.refl h).push _) fun b hb=>?_
  rcases List.mem_append.1 hb with hb|hb
  ·exact rx.lt b hb
  ·exact Cel.lt ra b hb
 ·intro v h' F' kp r' o'
  have kp':Kp h h' Fx:=(Kp.iA ((Ext.refl h).push _)).trans kp
  refine hk v h' F' (fun h0 e hn0=>kp'.ext e fun b hb=>?_) kp' r' o'
  have:=(o.2 b (List.mem_append_left _ hb)).1;omega
theorem app0 {n es bytes:Nat} {y:AV} {ys:List α} {Fy:List Nat} (ry:au h y ys Fy) (o:Own n h Fy.tail) (hn:n≤h.n) (hw:es=Cel.w α) (hs:ys.length * bytes≤70368744177664)
  (hk:∀ v h' F',Ext h h'→au h' v ys F'→Own n h' F'→(k v).awp P h' Q):(Prog.op (.app es bytes .aC y) k).awp P h Q:=by
 have:=ry.small
 refine nP (n:=n) (xs:=[]) au.aC ry (by simpa using o) hn hw (by simpa using hs) (by simpa using this) ?_
 intro v h' F' kp r' o'
 exact hk v h' F' (kp.ext (Ext.refl _) (by simp)) r' o'
theorem CK {n es bytes:Nat} {y:AV} {ys:List α} {Fy:List Nat} (ry:au h y ys Fy) (o:Own n h Fy.tail) (hn:n≤h.n) (hw:es=Cel.w α) (hs:ys.length * bytes≤70368744177664)
  (hk:∀ v h' F',Ext h h'→au h' v ys F'→Own n h' F'→(k v).awp P h' Q):(Prog.op (.app es bytes (.sl h.n 0 0) y) k).awp P (h.push ⟨[],es,0⟩) Q:=by
 have hsm:=ry.small
 obtain⟨re,oe⟩:=jy (h:=h) (α:=α) hw
 have hlt:=ry.lt
 have NK:∀ b∈Fy.tail,b < h.n:=fun b hb=>hlt b (List.mem_of_mem_tail hb)
 refine nP (n:=n) (xs:=[]) re (oQ ry) ?_ (by simp;omega) hw (by simpa using hs) (by simpa using hsm) ?_
 ·exact mM hn rfl NK o
 ·intro v h' F' kp r' o'
  exact hk v h' F' ⟨Nat.le_trans (by simp) kp.1,fun b hb=>by
   rw[kp.2 b (by simp;omega) (by simp;omega)]
   have:b≠h.n:=by omega
   simp[this]⟩ r' o'
end
section
variable{α:Type} [Flat α] {h:AH}
end
end Go.Ab
end
section
namespace Go.Ab
variable{h:AH} {P:Program} {Q:Nat→List AV→AH→Prop} {k:AV→Prog}
end Go.Ab
end
section
namespace Go.Ab
open Go.RowKit
theorem ajS {α:Type} {xs:List α} {i:Nat} {x x':α} (hx:xs[i]? =some x):xs.set i x'=xs.take i++x'::xs.drop (i+1):=by
 have hi:=(List.getElem?_eq_some_iff.1 hx).1
 rw[List.set_eq_take_append_cons_drop,if_pos hi]
theorem Bc {α:Type} {xs:List α} {i:Nat} {x:α} (hx:xs[i]? =some x):xs=xs.take i++x::xs.drop (i+1):=by
 obtain⟨y,hy,hd,-⟩:=aP (List.getElem?_eq_some_iff.1 hx).1
 rw[hx] at hy;cases hy
 rw[←hd,List.take_append_drop]
section
variable{α:Type} [Cel α] {h h':AH}
theorem bT.yj:∀ {xs ys:List α} {cs:List AV} {F:List Nat},bT h (xs++ys) cs F→∃ c1 c2 F1 F2,cs=c1++c2∧F=F1++F2∧bT h xs c1 F1∧bT h ys c2 F2
 |[],ys,cs,F,r=>⟨[],cs,[],F,rfl,rfl,⟨rfl,rfl⟩,r⟩
 |x::xs,ys,cs,F,r=>by
  obtain⟨c1,c2,F1,F2,rfl,rfl,r1,r2⟩:=r
  obtain⟨d1,d2,G1,G2,rfl,rfl,q1,q2⟩:=bT.yj r2
  exact⟨c1++d1,d2,F1++G1,G2,by simp,by simp,⟨c1,d1,F1,G1,rfl,rfl,r1,q1⟩,q2⟩
theorem au.zip {v:AV} {xs:List α} {F:List Nat} (r:au h v xs F) {i:Nat} {x:α} (hx:xs[i]? =some x):
  ∃ b off A E R F1 Fi F2,v= .sl b off xs.length∧F=b::(F1++(Fi++F2))∧b < h.n∧live h b∧(h.get b).es=Cel.w α∧(h.get b).cells=A++(E++R)∧A.length=off+i * Cel.w α∧Cel.rep h x E Fi∧
   ∀ (h':AH) (x':α) (E':List AV) (Fi':List Nat),(h'.get b).cells=A++(E'++R)→(h'.get b).es=Cel.w α→live h' b→b < h'.n→(∀ c∈F1++F2,h'.get c=h.get c∧c < h'.n)→Cel.rep h' x' E' Fi'→
    au h' v (xs.set i x') (b::(F1++(Fi'++F2))):=by
 have hi:i < xs.length:=(List.getElem?_eq_some_iff.1 hx).1
 rcases r with⟨_,h1,_⟩|⟨b,off,F',cs,e1,rfl,h1,h2,h3,h4,h5,h6,h7⟩
 ·omega
 ·have h7':=h7
  have hsp:xs=xs.take i++([x]++xs.drop (i+1)):=by simpa using Bc hx
  rw[hsp] at h7'
  obtain⟨c1,c2,F1,F2,rfl,rfl,q1,q2⟩:=h7'.yj
  obtain⟨E,c3,Fi,F3,rfl,rfl,q3,q4⟩:=q2
  have q3:Cel.rep h x E Fi:=q3
  have l1:=q1.length
  have l3:=Cel.len q3
  have l4:=bT.length (xs:=xs.drop (i+1)) q4
  rw[List.length_take,Nat.min_eq_left (by omega)] at l1
  rw[List.length_drop] at l4
  have hmul:xs.length * Cel.w α=i * Cel.w α+Cel.w α+(xs.length - (i+1)) * Cel.w α:=by
   rw[←Nat.succ_mul,←Nat.add_mul];congr 1;omega
  have hcells:(h.get b).cells=((h.get b).cells.take off++c1)++(E++(c3++(h.get b).cells.drop (off+xs.length * Cel.w α))):=by
   have:(h.get b).cells=(h.get b).cells.take off++((c1++(E++c3))++(h.get b).cells.drop (off+xs.length * Cel.w α)):=by
    rw[h6,←List.append_assoc,←List.take_add,List.take_append_drop]
   simpa using this
  refine⟨b,off,(h.get b).cells.take off++c1,E,c3++(h.get b).cells.drop (off+xs.length * Cel.w α),F1,Fi,F3,e1,rfl,h1,h2,h3,hcells,?_,q3,?_⟩
  ·rw[List.length_append,List.length_take,l1];omega
  ·intro h' x' E' Fi' g1 g2 g3 g4 g5 g6
   have lE:=Cel.len g6
   rw[ajS hx]
   refine .inr ⟨b,off,F1++(Fi'++F3),c1++(E'++c3),?_,rfl,g4,g3,g2,?_,?_,?_,?_⟩
   ·rw[e1];congr 1
    simp only[List.length_append,List.length_take,List.length_cons,List.length_drop];omega
   ·rw[g1]
    simp only[List.length_append,List.length_take,List.length_cons,List.length_drop,lE,l1,l4]
    have:(min i xs.length+(xs.length - (i+1)+1))=xs.length:=by omega
    rw[this,hmul]
    omega
   ·simp only[List.length_append,List.length_take,List.length_cons,List.length_drop];omega
   ·rw[g1]
    have e2:(List.take i xs++x'::List.drop (i+1) xs).length=xs.length:=by simp only[List.length_append,List.length_take,List.length_cons,List.length_drop];omega
    rw[e2]
    have e3:((h.get b).cells.take off).length=off:=by rw[List.length_take];omega
    have e4:(c1++(E'++c3)).length=xs.length * Cel.w α:=by rw[List.length_append,List.length_append,l1,lE,l4,hmul];omega
    rw[show((h.get b).cells.take off++c1)++(E'++(c3++(h.get b).cells.drop (off+xs.length * Cel.w α)))=(h.get b).cells.take off++((c1++(E'++c3))++(h.get b).cells.drop (off+xs.length * Cel.w α)) by simp]
    rw[List.drop_left' e3,←e4,List.take_left]
   ·have k1:bT h' (xs.take i) c1 F1:=q1.keep fun c hc=>g5 c (List.mem_append_left _ hc)
    have k2:bT h' (xs.drop (i+1)) c3 F3:=bT.keep (xs:=xs.drop (i+1)) q4 fun c hc=>g5 c (List.mem_append_right _ hc)
    exact k1.append ⟨E',c3,Fi',F3,rfl,rfl,g6,k2⟩
end
section
variable{P:Program} {h:AH} {Q:Nat→List AV→AH→Prop} {k:AV→Prog}
theorem Ig {n b o j es:Nat} {A E E' R xs:List AV} {x:AV} (hg:h.get b=⟨A++(E++R),es,0⟩) (ho:A.length=o) (hx:x.cells? =some xs) (hn:xs.length=n) (s:SP E j xs E') (hk:(k (.tup [])).awp P (h.upd b ⟨A++(E'++R),es,0⟩) Q):
  (Prog.op (.st n (.ptr b (o+j)) x) k).awp P h Q:=by
 obtain⟨s1,rfl⟩:=s
 subst ho hn
 refine zl (by simp[mine,hg]) hx rfl (by rw[hg];simp only[List.length_append];omega) ?_
 have:splice (A++(E++R)) (A.length+j) xs=A++(splice E j xs++R):=by
  have e1:A++(E++R)=(A++E.take j)++(E.drop j++R):=by
   rw[List.append_assoc,←List.append_assoc (E.take j),List.take_append_drop]
  rw[e1,sQ (A:=A++E.take j) (by simp;omega) (by simp;omega),List.drop_append_of_le_length (by simp;omega),List.drop_drop]
  unfold splice
  simp
 rw[hg];simp only[this];exact hk
theorem Oe {b es st:Nat} {A E R:List AV} {o:Nat} (hb:b < h.n) (hl:live h b) (hg:(h.get b).cells=A++(E++R)) (ho:A.length=o):At h b o E:=by
 subst ho
 exact⟨hb,hl,by rw[hg];simp⟩
end
theorem oU {α:Type} [Flat α] {h0 h:AH} {v:AV} {xs:List α} {F:List Nat} (r:au h0 v xs F) (n:Nat):Own n h F.tail:=by
 rcases r.flat with⟨_,_,rfl⟩|⟨b,_,_,_,rfl,_⟩<;>exact Own.nil
section
variable{α:Type} [Cel α] {P:Program} {h h0:AH} {Q:Nat→List AV→AH→Prop} {k:AV→Prog}
theorem Mq {n:Nat} {b:Nat} {A B C:List Nat} (o:Own n h (b::(A++(B++C)))):Own n h B:=
 ⟨(List.nodup_append.1 (List.nodup_append.1 (List.nodup_cons.1 o.1).2).2.1).1,fun c hc=>o.2 c (by simp[hc])⟩
theorem LZ {n:Nat} {F G:List Nat} (o:Own n h (F++G)):Own n h (F++G.tail):=by
 cases G with
 |nil=>exact o
 |cons b G=>
  have h1:=List.nodup_append.1 o.1
  exact⟨List.nodup_append.2 ⟨h1.1,(List.nodup_cons.1 h1.2.1).2,fun a ha c hc e=>h1.2.2 a ha c (List.mem_cons_of_mem _ hc) e⟩,fun c hc=>o.2 c (by
   rcases List.mem_append.1 hc with hc|hc
   ·simp[hc]
   ·simp[show c∈G from hc])⟩
theorem X0 {v:AV} {xs:List α} {F:List Nat} {n es i:Nat} {q:IntKind} {x:α} (r:au h0 v xs F) (o:Own n h0 F) (hx:xs[i]? =some x) (hw:es=Cel.w α)
  (hk:∀ b o cs Fi,At h0 b o cs→Cel.rep h0 x cs Fi→(∀ y∈Fi,y∈F)→Own n h0 Fi→(k (.ptr b o)).awp P h Q):(Prog.op (.idx es v (.int q i)) k).awp P h Q:=by
 subst hw
 obtain⟨b,off,A,E,R,F1,Fi,F2,rfl,rfl,hb,hl,hes,hg,hA,rx,-⟩:=r.zip hx
 have hi:i < xs.length:=(List.getElem?_eq_some_iff.1 hx).1
 refine mK hi (hk _ _ E Fi ⟨hb,hl,?_⟩ rx (fun y hy=>by simp[hy]) (Mq o))
 rw[hg,←hA];simp
theorem am4 {n es bytes:Nat} {x y:AV} {xs ys:List α} {Fx Fy:List Nat} (rx:au h x xs Fx) (ry:au h y ys Fy) (o:Own n h (Fx++Fy)) (hn:n≤h.n) (hw:es=Cel.w α) (hb:(xs.length+ys.length) * bytes≤70368744177664) (hs:xs.length+ys.length < 281474976710656)
  (hk:∀ v h' F',(∀ h0,Ext h0 h→h0.n≤n→Ext h0 h')→Kp h h' Fx→au h' v (xs++ys) F'→Own n h' F'→(k v).awp P h' Q):(Prog.op (.app es bytes x y) k).awp P h Q:=by
 refine nP rx ry (LZ o) hn hw hb hs fun v h' F' kp r' o'=>hk v h' F' (fun h0 e hn0=>kp.ext e fun b hb=>?_) kp r' o'
 have:=(o.2 b (List.mem_append_left _ hb)).1;omega
end
section
variable{α:Type} [Flat α] {P:Program} {h:AH} {Q:Nat→List AV→AH→Prop} {k:AV→Prog}
theorem rD {n es bytes:Nat} {x y:AV} {xs ys:List α} {Fx Fy:List Nat} (rx:au h x xs Fx) (ry:au h y ys Fy) (o:Own n h Fx) (hn:n≤h.n) (hw:es=Cel.w α) (hb:(xs.length+ys.length) * bytes≤70368744177664) (hs:xs.length+ys.length < 281474976710656)
  (hk:∀ v h' F',(∀ h0,Ext h0 h→h0.n≤n→Ext h0 h')→Kp h h' Fx→au h' v (xs++ys) F'→Own n h' F'→(k v).awp P h' Q):(Prog.op (.app es bytes x y) k).awp P h Q:=by
 have ht:Fy.tail=[]:=by rcases ry.flat with⟨_,_,rfl⟩|⟨b,_,_,_,rfl,_⟩<;>rfl
 refine nP rx ry (by rw[ht,List.append_nil];exact o) hn hw hb hs fun v h' F' kp r' o'=>hk v h' F' (fun h0 e hn0=>kp.ext e fun b hb=>?_) kp r' o'
 have:=(o.2 b hb).1;omega
end
section
variable{α:Type} [Cel α] {P:Program} {h:AH}
theorem YC {w:Nat} {zero cs:List AV} (hz:zero.length=w) (hc:cs.length=w):cZ zero [(0,w,.agg cs)]=some cs:=by
 simp only[cZ,AV.cells?]
 rw[if_pos ⟨hc,by omega⟩,xO (by omega)]
def YN (w bytes:Nat) (zero:List AV) (c:Nat) (x0:AV):Prog:=.op (.len 0 x0) fun v1=>.loop [AV.aC,AV.int .i64 0] (fun vs2=>.op (.bin 0 .lss (g vs2 1) v1) fun v4=>.ite v4 (.op (.idx w x0 (g vs2 1)) fun v5=>.op (.ldn w v5) fun v6=>.op (.alloc zero) fun v7=>.op (.st w v7 v6) fun v8=>.op (.ldn w v7) fun v9=>.op (.call c [v9]) fun v10=>.op (.aU w 1 zero [(0,w,v10)]) fun v11=>.op (.app w bytes (g vs2 0) v11) fun v12=>.op (.bin 0 .add (g vs2 1) (AV.int .i64 1)) fun v13=>.leaf 0 [v12,v13]) (.leaf 2 [g vs2 0,g vs2 1])) fun t3 vs2=>aB t3 1 (.leaf 1 vs2) (aB t3 2 (.fin [.val (g vs2 0)]) .bad)
theorem VL {w bytes c:Nat} {zero:List AV} (hw:w=Cel.w α) (hz:zero.length=w) (hw2:w≤1000) {xs:List α} (hc:∀ x∈xs,dO α P c x) {x0:AV} {F:List Nat} (r:au h x0 xs F) (hs:xs.length * bytes≤70368744177664):
  (YN w bytes zero c x0).awp P h fun t vs h'=>t=1∧∃ u,vs=[u]∧oz α h xs u h':=by
 subst hw
 unfold YN
 have hsm:=r.small
 have hpos:=Cel.pos (α:=α)
 refine bP r ?_
 refine aT xs.length (fun i vs h1=>∃ u G,vs=[u,.int .i64 (i:Int)]∧i≤xs.length∧Ext h h1∧au h1 u (xs.take i) G∧Own h.n h1 G) ⟨.aC,[],rfl,Nat.zero_le _,Ext.refl _,au.aC,Own.nil⟩ ?_
 rintro i vs h1 _ ⟨u,G,rfl,hi,e1,ru,ou⟩
 simp only[g0,g1]
 refine iH (fun hlt=>dM ?_) (fun hge=>dP ?_)
 ·obtain⟨x,hx,-,htk⟩:=aP (show i < xs.length by omega)
  refine bV r hx rfl fun b o cs Fi a rx _=>?_
  have hl:=Cel.len rx
  refine jf a e1 hpos (List.take_of_length_le (by omega)) hl (jD (yL rfl hl (by omega) ?_))
  rw[xO (by omega)]
  refine jf jY (Ext.refl _) hpos (List.take_of_length_le (by omega)) hl ?_
  have e2:=e1.push ⟨cs,0,0⟩
  refine aK (hc x (List.mem_of_getElem? hx) cs Fi _ (iW rx e2)) ?_
  rintro _ h2 ⟨e3,cs',G2,rfl,rx',o2⟩
  have n3:=e3.1
  simp only[aH] at n3
  refine yh (YC hz (Cel.len rx')) (by omega) (by rw[Cel.len rx',Nat.one_mul]) ?_
  have ru2:au h2 u (xs.take i) G:=(ru.ext ((Ext.refl h1).push _)).ext e3
  have hlen:(xs.take i).length=i:=by rw[List.length_take];omega
  have o3:Own h.n h2 (G++G2):=by
   refine fK ((ou.ext ((Ext.refl h1).push _) ru.lt).ext e3 fun b hb=>by have:=ru.lt b hb;simp;omega) o2 (by have:=e1.1;simp only[aH];omega) fun c h1 h2=>?_
   have:=ru.lt c h1;have:=(o2.2 c h2).1;simp only[aH] at this;omega
  refine app1 (n:=h.n) ru2 rx' o3 (by have:=e1.1;omega) rfl ?_ (by rw[hlen];omega) ?_
  ·rw[hlen];exact Nat.le_trans (Nat.mul_le_mul_right _ (by omega)) hs
  ·intro u' h' F' ek kp r' o'
   refine jc (by omega) (dQ (jW ⟨by omega,u',F',rfl,by omega,ek h (e2.trans e3) (Nat.le_refl _),by rw[htk];exact r',o'⟩))
 ·exact dQ (tJ (by decide) (qh (by decide) (qj (eY ⟨rfl,u,rfl,e1,G,by rw[show i=xs.length by omega,List.take_length] at ru;exact ru,ou⟩))))
def YM (w bytes:Nat) (zero:List AV) (c:Nat) (x0:AV):Prog:=.op (.aU w 0 [] []) fun v1=>.loop [v1,AV.int .i64 0] (fun vs2=>.op (.len 0 x0) fun v4=>.op (.bin 0 .lss (g vs2 1) v4) fun v5=>.ite v5 (.op (.idx w x0 (g vs2 1)) fun v6=>.op (.ldn w v6) fun v7=>.op (.call c [v7]) fun v8=>.op (.alloc zero) fun v9=>.op (.st w v9 v8) fun v10=>.op (.ldn w v9) fun v11=>.op (.aU w 1 zero [(0,w,v11)]) fun v12=>.op (.app w bytes (g vs2 0) v12) fun v13=>.op (.bin 0 .add (g vs2 1) (AV.int .i64 1)) fun v14=>.leaf 0 [v13,v14]) (.leaf 2 [g vs2 0,g vs2 1])) fun t3 vs2=>aB t3 1 (.leaf 1 vs2) (aB t3 2 (.fin [.val (g vs2 0)]) .bad)
theorem LK {w bytes c:Nat} {zero:List AV} (hw:w=Cel.w α) (hz:zero.length=w) (hw2:w≤1000) {xs:List α} (hc:∀ x∈xs,dO α P c x) {x0:AV} {F:List Nat} (r:au h x0 xs F) (hs:xs.length * bytes≤70368744177664):
  (YM w bytes zero c x0).awp P h fun t vs h'=>t=1∧∃ u,vs=[u]∧oz α h xs u h':=by
 subst hw
 unfold YM
 have hsm:=r.small
 have hpos:=Cel.pos (α:=α)
 obtain⟨re,oe⟩:=jy (h:=h) (α:=α) (w:=Cel.w α) rfl
 refine yh rfl (by omega) (by simp) ?_
 refine aT xs.length (fun i vs h1=>∃ u G,vs=[u,.int .i64 (i:Int)]∧i≤xs.length∧Ext h h1∧au h1 u (xs.take i) G∧Own h.n h1 G) ⟨_,_,rfl,Nat.zero_le _,(Ext.refl _).push _,by rw[List.take_zero];exact re,oe _ (Nat.le_refl _)⟩ ?_
 rintro i vs h1 _ ⟨u,G,rfl,hi,e1,ru,ou⟩
 simp only[g0,g1]
 refine bP r (iH (fun hlt=>dM ?_) (fun hge=>dP ?_))
 ·obtain⟨x,hx,-,htk⟩:=aP (show i < xs.length by omega)
  refine bV r hx rfl fun b o cs Fi a rx _=>?_
  have hl:=Cel.len rx
  refine jf a e1 hpos (List.take_of_length_le (by omega)) hl ?_
  refine aK (hc x (List.mem_of_getElem? hx) cs Fi _ (iW rx e1)) ?_
  rintro _ h2 ⟨e3,cs',G2,rfl,rx',o2⟩
  have n3:=e3.1
  have hl2:=Cel.len rx'
  refine jD (yL rfl hl2 (by omega) ?_)
  rw[xO (by omega)]
  refine jf jY (Ext.refl _) hpos (List.take_of_length_le (by omega)) hl2 ?_
  have e4:=(Ext.refl h2).push ⟨cs',0,0⟩
  refine yh (YC hz hl2) (by omega) (by rw[hl2,Nat.one_mul]) ?_
  have ru2:au h2 u (xs.take i) G:=ru.ext e3
  have hlen:(xs.take i).length=i:=by rw[List.length_take];omega
  have o3:Own h.n h2 (G++G2):=by
   refine fK (ou.ext e3 ru.lt) o2 e1.1 fun c h1 h2=>?_
   have:=ru.lt c h1;have:=(o2.2 c h2).1;omega
  refine app1 (n:=h.n) (ru2.ext e4) (iW rx' e4) (o3.ext e4 fun b hb=>?_) (by have:=e1.1;simp only[aH];omega) rfl ?_ (by rw[hlen];omega) ?_
  ·rcases List.mem_append.1 hb with hb|hb
   ·exact ru2.lt b hb
   ·exact Cel.lt rx' b hb
  ·rw[hlen];exact Nat.le_trans (Nat.mul_le_mul_right _ (by omega)) hs
  ·intro u' h' F' ek kp r' o'
   refine jc (by omega) (dQ (jW ⟨by omega,u',F',rfl,by omega,ek h ((e1.trans e3).trans e4) (Nat.le_refl _),by rw[htk];exact r',o'⟩))
 ·exact dQ (tJ (by decide) (qh (by decide) (qj (eY ⟨rfl,u,rfl,e1,G,by rw[show i=xs.length by omega,List.take_length] at ru;exact ru,ou⟩))))
end
end Go.Ab
end
section
namespace Go.Ab
open Go.RowKit
section
variable{P:Program} {h:AH} {Q:Nat→List AV→AH→Prop} {k:AV→Prog}
theorem Wh {b off ln es bytes n:Nat} {y:AV} {new:List AV} (hm:mine h b) (he:es≠0) (hes:(h.get b).es=es) (hy:mP h es y=some new) (hn:mg y=some n) (hl:Ce h y) (hfit:off+(ln+n) * es≤(h.get b).cells.length)
  (hk:(k (.sl b off (ln+n))).awp P (h.upd b {h.get b with cells:=splice (h.get b).cells (off+ln * es) new}) Q):(Prog.op (.app es bytes (.sl b off ln) y) k).awp P h Q:=by
 simp only[Prog.awp,AOp.go,hy,hn]
 refine⟨hm,hl,he,hes,?_⟩
 rw[if_pos hfit];exact hk
theorem aj9 {b off len es i j:Nat} (he:es≠0) (h1:(h.get b).es=es) (h2:mine h b) (h3:off+len * es≤(h.get b).cells.length) (hij:i≤j) (hj:off+j * es≤(h.get b).cells.length) (hk:(k (.sl b (off+i * es) (j - i))).awp P h Q):
  (Prog.op (.slc es (.sl b off len) (some (.int .i64 (i:Int))) (some (.int .i64 (j:Int))) none) k).awp P h Q:=by
 simp only[Prog.awp,AOp.go,bnd,lI]
 refine⟨he,h1,h2,h3,Int.natCast_nonneg _,by omega,by simpa using hj,?_⟩
 have:((j:Int) - (i:Int)).toNat=j - i:=by omega
 simpa[this] using hk
theorem alx {b off len:Nat} {i j m:Int} (h0:0≤i) (h1:i≤j) (h2:j≤m) (h3:m≤len) (hk:(k .un).awp P h Q):
  (Prog.op (.zw (.sl b off len) (some (.int .i64 i)) (some (.int .i64 j)) (.int .i64 m)) k).awp P h Q:=by
 simp only[Prog.awp,AOp.go,bnd,lI]
 exact⟨rfl,h0,h1,h2,h3,hk⟩
end
def Zc (w bytes:Nat) (zero:List AV) (x0 x1 x2:AV):Prog:=.op (.len 0 x0) fun v1=>.op (.zw x0 (some x1) (some x2) v1) fun v2=>.op (.bin 0 .eql x1 x2) fun v3=>.ite v3 (.fin [.val x0]) (.op (.len 0 x0) fun v4=>.op (.slc w x0 none (some x1) none) fun v5=>.op (.slc w x0 (some x2) none none) fun v6=>.op (.app w bytes v5 v6) fun v7=>.op (.len 0 v7) fun v8=>.op (.slc w v7 (some v8) (some v4) none) fun v9=>.op (.clr w zero v9) fun v10=>.fin [.val v7])
theorem UZ {β:Type} {xs:List β} {i:Nat} (hi:i < xs.length):xs.eraseIdx i=xs.take i++xs.drop (i+1):=List.eraseIdx_eq_take_drop_succ ..
theorem aj7 {pre c1 E c2 post zero:List AV} {w:Nat} (hE:E.length=w) (hz:zero.length=w):
  splice (splice (pre++(c1++(E++(c2++post)))) (pre.length+c1.length) c2) (pre.length+c1.length+c2.length) zero=pre++(c1++(c2++(zero++post))):=by
 have e1:splice (pre++(c1++(E++(c2++post)))) (pre.length+c1.length) c2=(pre++c1)++c2++(E++(c2++post)).drop c2.length:=by
  rw[show pre++(c1++(E++(c2++post)))=(pre++c1)++(E++(c2++post)) by simp]
  exact sQ (by simp) (by simp;omega)
 rw[e1]
 have e2:(E++(c2++post)).drop c2.length=(E++c2).drop c2.length++post:=by
  rw[←List.append_assoc,List.drop_append_of_le_length (by simp)]
 have e3:((E++c2).drop c2.length).length=w:=by simp[hE]
 rw[e2,sQ (A:=(pre++c1)++c2) (by simp;omega) (by rw[List.length_append,e3,hz];omega)]
 rw[hz,←e3,List.drop_left]
 simp
section
variable{α:Type} [Cel α] {P:Program} {h:AH}
theorem akL {w bytes i n:Nat} {zero:List AV} (hw:w=Cel.w α) (hz:zero.length=w) {xs:List α} {v:AV} {F:List Nat} (r:au h v xs F) (o:Own n h F) (hi:i < xs.length):
  (Zc w bytes zero v (.int .i64 (i:Int)) (.int .i64 ((i+1:Nat):Int))).awp P h fun t vs h'=>t=1∧∃ u,vs=[u]∧Kp h h' F∧∃ F',au h' u (xs.eraseIdx i) F'∧Own n h' F'∧∀ c∈F',c∈F:=by
 subst hw
 have hpos:=Cel.pos (α:=α)
 have hsm:=r.small
 obtain⟨x,hx,-,-⟩:=aP hi
 unfold Zc
 refine bP r ?_
 rcases r with⟨_,h1,_⟩|⟨b,off,F',cs,e1,rfl,h1,h2,h3,h4,h5,h6,h7⟩
 ·omega
 subst e1
 have hm:mine h b:=(o.2 b (by simp)).2
 have h7':=h7
 have hsp:xs=xs.take i++([x]++xs.drop (i+1)):=by simpa using Bc hx
 rw[hsp] at h7'
 obtain⟨c1,c23,F1,F23,rfl,rfl,q1,q2⟩:=h7'.yj
 obtain⟨E,c2,Fi,F2,rfl,rfl,q3,q4⟩:=q2
 have q3:Cel.rep h x E Fi:=q3
 have l1:=q1.length
 have l3:=Cel.len q3
 have l4:=bT.length (xs:=xs.drop (i+1)) q4
 rw[List.length_take,Nat.min_eq_left (by omega)] at l1
 rw[List.length_drop] at l4
 have hmul:xs.length * Cel.w α=i * Cel.w α+Cel.w α+(xs.length - (i+1)) * Cel.w α:=by
  rw[←Nat.succ_mul,←Nat.add_mul];congr 1;omega
 have Na:(i+1) * Cel.w α=i * Cel.w α+Cel.w α:=Nat.succ_mul _ _
 obtain⟨pre,post,hcells,hpre⟩:∃ pre post,(h.get b).cells=pre++(c1++(E++(c2++post)))∧pre.length=off:=by
  refine⟨(h.get b).cells.take off,(h.get b).cells.drop (off+xs.length * Cel.w α),?_,by rw[List.length_take];omega⟩
  have:(h.get b).cells=(h.get b).cells.take off++((c1++(E++c2))++(h.get b).cells.drop (off+xs.length * Cel.w α)):=by
   rw[h6,←List.append_assoc,←List.take_add,List.take_append_drop]
  simpa using this
 have hst:(h.get b).st=0:=hm
 refine alx (by omega) (by omega) (by omega) (by omega) ?_
 refine Ia (fun h=>by omega) (fun _=>dP ?_)
 refine Ls (LU (by omega) h3 hm h4 (by omega) (vD (by omega) h3 hm h4 (by omega) ?_))
 have hnew:mP h (Cel.w α) (.sl b (off+(i+1) * Cel.w α) (xs.length - (i+1)))=some c2:=by
  simp only[mP]
  rw[if_pos (by rw[Na];omega),hcells]
  congr 1
  rw[show pre++(c1++(E++(c2++post)))=(pre++(c1++E))++(c2++post) by simp,show off+(i+1) * Cel.w α=(pre++(c1++E)).length by simp only[List.length_append];omega,List.drop_left,←l4,List.take_left]
 have hlen1:i+(xs.length - (i+1))=xs.length - 1:=by omega
 have amS:(xs.length - 1) * Cel.w α+Cel.w α=xs.length * Cel.w α:=by rw[←Nat.succ_mul];congr 1;omega
 refine Wh hm (by omega) h3 hnew rfl (.inr h2) (by rw[hlen1];omega) ?_
 rw[hlen1]
 refine Ls ?_
 have hL1:(splice (h.get b).cells (off+i * Cel.w α) c2).length=(h.get b).cells.length:=EO _ _ _ (by rw[l4];omega)
 refine aj9 (by omega) (by simpa using h3) (by simpa[mine] using hst) (by simp only[gY,if_true,hL1];omega) (by omega) (by simp only[gY,if_true,hL1];omega) ?_
 rw[show xs.length - (xs.length - 1)=1 by omega]
 refine YB (by simpa[mine] using hst) hz (by simp only[gY,if_true,hL1];omega) ?_
 simp only[gY,if_true,akQ,List.replicate_one,List.flatten_cons,List.flatten_nil,List.append_nil]
 have hfin:splice (splice (h.get b).cells (off+i * Cel.w α) c2) (off+(xs.length - 1) * Cel.w α) zero=pre++(c1++(c2++(zero++post))):=by
  rw[hcells,show off+i * Cel.w α=pre.length+c1.length by omega,show off+(xs.length - 1) * Cel.w α=pre.length+c1.length+c2.length by omega]
  exact aj7 l3 hz
 rw[hfin]
 have hnb:b ∉ F1++(Fi++F2):=(List.nodup_cons.1 o.1).1
 have keep:∀ c∈F1++(Fi++F2),(h.upd b ⟨pre++(c1++(c2++(zero++post))),(h.get b).es,(h.get b).st⟩).get c=h.get c:=fun c hc=>by
  have:c≠b:=fun e=>hnb (e▸hc)
  simp[this]
 have hes:(xs.eraseIdx i).length=xs.length - 1:=by rw[List.length_eraseIdx,if_pos hi]
 refine eY ⟨rfl,_,rfl,?_,b::(F1++F2),.inr ⟨b,off,F1++F2,c1++c2,by rw[hes],rfl,by simpa using h1,by simpa[live] using h2,by simpa using h3,?_,by omega,?_,?_⟩,?_,?_⟩
 ·exact⟨Nat.le_refl _,fun c _ hX=>by have:c≠b:=fun e=>hX (by simp[e]);simp[this]⟩
 ·simp only[gY,if_true,List.length_append];rw[hes];omega
 ·simp only[gY,if_true]
  rw[hes,←hpre,List.drop_left,show(xs.length - 1) * Cel.w α=(c1++c2).length by simp only[List.length_append];omega,←List.append_assoc c1,List.take_left]
 ·rw[UZ hi]
  exact(q1.keep fun c hc=>⟨keep c (by simp[hc]),by simpa using q1.lt c hc⟩).append (bT.keep (xs:=xs.drop (i+1)) q4 fun c hc=>⟨keep c (by simp[hc]),by simpa using bT.lt (xs:=xs.drop (i+1)) q4 c hc⟩)
 ·have hnd:=List.nodup_cons.1 o.1
  have nZ:=List.nodup_append.1 hnd.2
  have pO:=List.nodup_append.1 nZ.2.1
  refine⟨List.nodup_cons.2 ⟨fun hc=>hnb (by simp at hc ⊢;rcases hc with hc|hc<;>simp[hc]),List.nodup_append.2 ⟨nZ.1,pO.2.1,fun a ha c hc e=>nZ.2.2 a ha c (by simp[hc]) e⟩⟩,fun c hc=>?_⟩
  have hc':c∈b::(F1++(Fi++F2)):=by simp at hc ⊢;rcases hc with hc|hc|hc<;>simp[hc]
  refine⟨(o.2 c hc').1,?_⟩
  by_cases e:c=b
  ·subst e;simpa using hst
  ·simp[e];exact(o.2 c hc').2
 ·intro c hc
  simp at hc ⊢;rcases hc with hc|hc|hc<;>simp[hc]
theorem au.top {n:Nat} {xs:List α} {v:AV} {F:List Nat} (r:au h v xs F) (o:Own n h F) (hi:0 < xs.length):∃ b off,v= .sl b off xs.length∧mine h b∧(h.get b).es=Cel.w α∧off+xs.length * Cel.w α≤(h.get b).cells.length∧n≤b∧b < h.n:=by
 rcases r with⟨_,h1,_⟩|⟨b,off,F',cs,e1,rfl,h1,h2,h3,h4,h5,h6,h7⟩
 ·omega
 ·exact⟨b,off,e1,(o.2 b (by simp)).2,h3,h4,(o.2 b (by simp)).1,h1⟩
theorem als {bytes i n:Nat} {xs:List α} {b off:Nat} {F:List Nat} (r:au h (.sl b off xs.length) xs F) (o:Own n h F) (hi:i < xs.length) {Q:Nat→List AV→AH→Prop} {k:AV→Prog}
  (hk:∀ h' F',Kp h h' F→au h' (.sl b off (xs.length - 1)) (xs.eraseIdx i) F'→Own n h' F'→(∀ c∈F',c∈F)→h'.n=h.n→(k (.sl b off (xs.length - 1))).awp P h' Q):
  (Prog.op (.app (Cel.w α) bytes (.sl b off i) (.sl b (off+(i+1) * Cel.w α) (xs.length - (i+1)))) k).awp P h Q:=by
 have hpos:=Cel.pos (α:=α)
 have hsm:=r.small
 obtain⟨x,hx,-,-⟩:=aP hi
 rcases r with⟨_,h1,_⟩|⟨b',off',F',cs,e1,rfl,h1,h2,h3,h4,h5,h6,h7⟩
 ·omega
 cases e1
 have hm:mine h b:=(o.2 b (by simp)).2
 have h7':=h7
 have hsp:xs=xs.take i++([x]++xs.drop (i+1)):=by simpa using Bc hx
 rw[hsp] at h7'
 obtain⟨c1,c23,F1,F23,rfl,rfl,q1,q2⟩:=h7'.yj
 obtain⟨E,c2,Fi,F2,rfl,rfl,q3,q4⟩:=q2
 have q3:Cel.rep h x E Fi:=q3
 have l1:=q1.length
 have l3:=Cel.len q3
 have l4:=bT.length (xs:=xs.drop (i+1)) q4
 rw[List.length_take,Nat.min_eq_left (by omega)] at l1
 rw[List.length_drop] at l4
 have hmul:xs.length * Cel.w α=i * Cel.w α+Cel.w α+(xs.length - (i+1)) * Cel.w α:=by
  rw[←Nat.succ_mul,←Nat.add_mul];congr 1;omega
 have Na:(i+1) * Cel.w α=i * Cel.w α+Cel.w α:=Nat.succ_mul _ _
 obtain⟨pre,post,hcells,hpre⟩:∃ pre post,(h.get b).cells=pre++(c1++(E++(c2++post)))∧pre.length=off:=by
  refine⟨(h.get b).cells.take off,(h.get b).cells.drop (off+xs.length * Cel.w α),?_,by rw[List.length_take];omega⟩
  have:(h.get b).cells=(h.get b).cells.take off++((c1++(E++c2))++(h.get b).cells.drop (off+xs.length * Cel.w α)):=by
   rw[h6,←List.append_assoc,←List.take_add,List.take_append_drop]
  simpa using this
 have hst:(h.get b).st=0:=hm
 have hnew:mP h (Cel.w α) (.sl b (off+(i+1) * Cel.w α) (xs.length - (i+1)))=some c2:=by
  simp only[mP]
  rw[if_pos (by rw[Na];omega),hcells]
  congr 1
  rw[show pre++(c1++(E++(c2++post)))=(pre++(c1++E))++(c2++post) by simp,show off+(i+1) * Cel.w α=(pre++(c1++E)).length by simp only[List.length_append];omega,List.drop_left,←l4,List.take_left]
 have hlen1:i+(xs.length - (i+1))=xs.length - 1:=by omega
 have amS:(xs.length - 1) * Cel.w α+Cel.w α=xs.length * Cel.w α:=by rw[←Nat.succ_mul];congr 1;omega
 refine Wh hm (by omega) h3 hnew rfl (.inr h2) (by rw[hlen1];omega) ?_
 rw[hlen1]
 have hL1:(splice (h.get b).cells (off+i * Cel.w α) c2).length=(h.get b).cells.length:=EO _ _ _ (by rw[l4];omega)
 have hfin:splice (h.get b).cells (off+i * Cel.w α) c2=pre++((c1++c2)++(E++(c2++post)).drop c2.length):=by
  rw[hcells,show off+i * Cel.w α=(pre++c1).length by simp only[List.length_append];omega,show pre++(c1++(E++(c2++post)))=(pre++c1)++(E++(c2++post)) by simp,sQ rfl (by simp;omega)]
  simp
 have hnb:b ∉ F1++(Fi++F2):=(List.nodup_cons.1 o.1).1
 generalize hZ:splice (h.get b).cells (off+i * Cel.w α) c2=Z at hL1 hfin ⊢
 have keep:∀ c∈F1++(Fi++F2),(h.upd b ⟨Z,(h.get b).es,(h.get b).st⟩).get c=h.get c:=fun c hc=>by
  have:c≠b:=fun e=>hnb (e▸hc)
  simp[this]
 have hes:(xs.eraseIdx i).length=xs.length - 1:=by rw[List.length_eraseIdx,if_pos hi]
 refine hk _ (b::(F1++F2)) ?_ (.inr ⟨b,off,F1++F2,c1++c2,by rw[hes],rfl,by simpa using h1,by simpa[live] using h2,by simpa using h3,?_,by omega,?_,?_⟩) ?_ ?_ rfl
 ·exact⟨Nat.le_refl _,fun c _ hX=>by have:c≠b:=fun e=>hX (by simp[e]);simp[this]⟩
 ·simp only[gY,if_true,hL1];rw[hes];omega
 ·simp only[gY,if_true]
  rw[hes,hfin,←hpre,List.drop_left,show(xs.length - 1) * Cel.w α=(c1++c2).length by simp only[List.length_append];omega,List.take_left]
 ·rw[UZ hi]
  exact(q1.keep fun c hc=>⟨keep c (by simp[hc]),by simpa using q1.lt c hc⟩).append (bT.keep (xs:=xs.drop (i+1)) q4 fun c hc=>⟨keep c (by simp[hc]),by simpa using bT.lt (xs:=xs.drop (i+1)) q4 c hc⟩)
 ·have hnd:=List.nodup_cons.1 o.1
  have nZ:=List.nodup_append.1 hnd.2
  have pO:=List.nodup_append.1 nZ.2.1
  refine⟨List.nodup_cons.2 ⟨fun hc=>hnb (by simp at hc ⊢;rcases hc with hc|hc<;>simp[hc]),List.nodup_append.2 ⟨nZ.1,pO.2.1,fun a ha c hc e=>nZ.2.2 a ha c (by simp[hc]) e⟩⟩,fun c hc=>?_⟩
  have hc':c∈b::(F1++(Fi++F2)):=by simp at hc ⊢;rcases hc with hc|hc|hc<;>simp[hc]
  refine⟨(o.2 c hc').1,?_⟩
  by_cases e:c=b
  ·subst e;simpa using hst
  ·simp[e];exact(o.2 c hc').2
 ·intro c hc
  simp at hc ⊢;rcases hc with hc|hc|hc<;>simp[hc]
end
end Go.Ab
end
section
namespace Go.Ab
open Go.RowKit
section
variable{α:Type} [Cel α] {P:Program} {h:AH}
def YK (w bytes:Nat) (zero:List AV) (c:Nat) (x0:AV):Prog:=.op (.len 0 x0) fun v1=>.op (.iw w bytes zero v1 v1) fun v2=>.loop [AV.int .i64 0] (fun vs3=>.op (.len 0 x0) fun v5=>.op (.bin 0 .lss (g vs3 0) v5) fun v6=>.ite v6 (.op (.idx w x0 (g vs3 0)) fun v7=>.op (.ld1 v7) fun v8=>.op (.call c [v8]) fun v9=>.op (.idx w v2 (g vs3 0)) fun v10=>.op (.st w v10 v9) fun v11=>.op (.bin 0 .add (g vs3 0) (AV.int .i64 1)) fun v12=>.leaf 0 [v12]) (.leaf 2 [g vs3 0])) fun t4 vs3=>aB t4 1 (.leaf 1 vs3) (aB t4 2 (.fin [.val v2]) .bad)
theorem toSS_spec {w bytes c n:Nat} {zero:List AV} (hw:w=Cel.w (List α)) (hz:zero.length=w) (hbn:bytes=n) {xs:List (List α)} (hc:∀ x∈xs,gG P c x) {x0:AV} {F:List Nat} (r:au h x0 xs F) (hs:xs.length * n≤70368744177664):
  (YK w bytes zero c x0).awp P h fun t vs h'=>t=1∧∃ v,vs=[v]∧Ext h h'∧∃ F',au h' v xs F'∧Own h.n h' F':=by
 subst hw hbn
 unfold YK
 have hsm:=r.small
 have hpos:=Cel.pos (α:=List α)
 refine bP r (MB hs ?_)
 refine aT xs.length (fun i vs h1=>vs=[.int .i64 (i:Int)]∧i≤xs.length∧Ext h h1∧h.n < h1.n∧∃ A FA,h1.get h.n=⟨A++(List.replicate (xs.length - i) zero).flatten,Cel.w (List α),0⟩∧bT h1 (xs.take i) A FA∧Own (h.n+1) h1 FA) ?_ ?_
 ·exact⟨rfl,Nat.zero_le _,(Ext.refl h).push _,by simp,[],[],by simp,⟨rfl,rfl⟩,Own.nil⟩
 ·rintro i vs h1 _ ⟨rfl,hi,e,hn,A,FA,hg,ra,oa⟩
  refine bP r (iH ?_ ?_)
  ·intro hlt
   have hlt:i < xs.length:=by simp[g] at hlt;exact hlt
   obtain⟨x,hx,_,htk⟩:=aP hlt
   refine dM (bV r hx rfl ?_)
   rintro b o _ Fi a ⟨v0,rfl,rx0⟩ _
   refine vF a e (aK (hc x (List.mem_of_getElem? hx) v0 Fi h1 (rx0.ext e)) ?_)
   rintro v h2 ⟨e2,F',Y9,o'⟩
   obtain⟨cs',hcs'⟩:∃ cs',cs'=[v]:=⟨_,rfl⟩
   have rx':Cel.rep h2 x cs' F':=⟨v,hcs',Y9⟩
   have hl':=Cel.len rx'
   have hA:=ra.length
   rw[List.length_take,Nat.min_eq_left hi] at hA
   have hg2:h2.get h.n=⟨A++(List.replicate (xs.length - i) zero).flatten,Cel.w (List α),0⟩:=by rw[e2.2 _ hn];exact hg
   have hle:i * Cel.w (List α)+Cel.w (List α)≤xs.length * Cel.w (List α):=by
    have:=Nat.mul_le_mul_right (Cel.w (List α)) (show i+1≤xs.length from hlt)
    rw[Nat.succ_mul] at this;exact this
   have hZ:((List.replicate (xs.length - i) zero).flatten).length=xs.length * Cel.w (List α) - i * Cel.w (List α):=by rw[L9,hz,Nat.mul_sub_right_distrib]
   refine mK (i:=i) hlt ?_
   refine zl (by simp[mine,hg2]) (by rw[hcs'];exact Y9.cell) hl' (by simp only[hg2,List.length_append,hZ,hA];omega) ?_
   refine jc (j:=i) (by omega) ?_
   refine dQ ?_
   simp only[hg2,Nat.zero_add]
   simp only[if_true]
   refine⟨hlt,trivial,hlt,(e.trans e2).upd (Nat.le_refl _) _,Nat.lt_of_lt_of_le hn e2.1,A++cs',FA++F',?_,?_,?_⟩
   ·have:xs.length - i=xs.length - (i+1)+1:=by omega
    simp only[gY,if_true]
    rw[sQ hA (by rw[hZ];omega),this,hl',←hz,VX,hz]
   ·rw[htk]
    have keep:∀ b,h.n < b→b < h2.n→(h2.upd h.n {h2.get h.n with cells:=splice (A++(List.replicate (xs.length - i) zero).flatten) (i * Cel.w (List α)) cs'}).get b=h2.get b∧b < (h2.upd h.n {h2.get h.n with cells:=splice (A++(List.replicate (xs.length - i) zero).flatten) (i * Cel.w (List α)) cs'}).n:=by
     intro b hb hb2
     have:b≠h.n:=by omega
     exact⟨by simp[this],hb2⟩
    simp only[hg2] at keep
    refine((ra.ext e2).keep fun b hb=>keep b (oa.2 b hb).1 ((ra.ext e2).lt b hb)).snoc (Cel.keep rx' fun b hb=>keep b (by have:=(o'.2 b hb).1;omega) (Cel.lt rx' b hb))
   ·refine⟨List.nodup_append.2 ⟨oa.1,o'.1,?_⟩,?_⟩
    ·intro a ha b hb e
     subst e
     have:=ra.lt a ha
     have:=(o'.2 a hb).1
     omega
    ·intro b hb
     have hb2:h.n < b∧(h2.get b).st=0:=by
      rcases List.mem_append.1 hb with hb|hb
      ·have h1:=oa.2 b hb
       exact⟨h1.1,by rw[e2.2 b (ra.lt b hb)];exact h1.2⟩
      ·have h1:=o'.2 b hb
       exact⟨by omega,h1.2⟩
     have:b≠h.n:=by omega
     exact⟨hb2.1,by simp[this,hb2.2]⟩
  ·intro hge
   have hge: ¬ i < xs.length:=by simp[g] at hge;omega
   have hi':i=xs.length:=by omega
   subst hi'
   refine dP (dQ ?_)
   simp only[aB,g]
   simp only[show(2:Nat)≠0 by decide,show(2:Nat)≠1 by decide,if_false,if_true]
   refine eY ⟨rfl,_,rfl,e,h.n::FA,.inr ⟨h.n,0,FA,A,rfl,rfl,hn,?_,?_,?_,hsm,?_,?_⟩,?_⟩
   ·simp[live,hg]
   ·simp[hg]
   ·have:=ra.length
    simp at this
    simp[hg,this]
   ·have:=ra.length
    simp at this
    simp[hg,←this]
   ·simpa using ra
   ·refine⟨List.nodup_cons.2 ⟨fun hm=>?_,oa.1⟩,?_⟩
    ·have:=(oa.2 _ hm).1;omega
    ·intro b hb
     rcases List.mem_cons.1 hb with rfl|hb
     ·exact⟨Nat.le_refl _,by simp[hg]⟩
     ·exact⟨by have:=(oa.2 b hb).1;omega,(oa.2 b hb).2⟩
def YO (c:Nat) (x0 x1:AV):Prog:=.op (.len 0 x0) fun v1=>.op (.len 0 x1) fun v2=>.op (.bin 0 .neq v1 v2) fun v3=>.ite v3 (.fin [.val (AV.bool false)]) (.loop [AV.int .i64 0] (fun vs4=>.op (.len 0 x0) fun v6=>.op (.bin 0 .lss (g vs4 0) v6) fun v7=>.ite v7 (.op (.idx 1 x0 (g vs4 0)) fun v8=>.op (.ld1 v8) fun v9=>.op (.idx 1 x1 (g vs4 0)) fun v10=>.op (.ld1 v10) fun v11=>.op (.call c [v9,v11]) fun v12=>.op (.una .not v12) fun v13=>.ite v13 (.fin [.val (AV.bool false)]) (.op (.bin 0 .add (g vs4 0) (AV.int .i64 1)) fun v14=>.leaf 0 [v14])) (.leaf 2 [g vs4 0])) fun t5 vs4=>aB t5 1 (.leaf 1 vs4) (aB t5 2 (.fin [.val (AV.bool true)]) .bad))
theorem aj6 {c:Nat} {xs:List (List α)} (hc:EqS α P c) {x0 x1:AV} {F F':List Nat} (r:au h x0 xs F) (r':au h x1 xs F'):
  (YO c x0 x1).awp P h (Post (.bool true) h):=by
 unfold YO
 have hsm:=r.small
 refine bP r (bP r' (Ca (fun hne=>absurd rfl hne) fun _=>dP ?_))
 refine aT xs.length (fun i vs h1=>vs=[.int .i64 (i:Int)]∧i≤xs.length∧h1=h) ⟨rfl,Nat.zero_le _,rfl⟩ ?_
 rintro i vs h1 _ ⟨rfl,hi,rfl⟩
 refine bP r (iH ?_ ?_)
 ·intro hlt
  have hlt:i < xs.length:=by simp[g] at hlt;exact hlt
  obtain⟨x,hx,_,htk⟩:=aP hlt
  refine dM (bV r hx rfl ?_)
  rintro b o _ Fi a ⟨v0,rfl,rx⟩ _
  refine vF a (Ext.refl _) (bV r' hx rfl ?_)
  rintro b' o' _ Fi' a' ⟨v0',rfl,rx'⟩ _
  refine vF a' (Ext.refl _) (aJ (hc x v0 v0' Fi Fi' h1 rx rx') (qx (dP ?_)))
  refine jc (j:=i) (by omega) ?_
  exact dQ (nexts ⟨hlt,rfl,hlt,rfl⟩)
 ·intro hge
  exact dP (dQ (zk (eY ⟨rfl,rfl,Ext.refl _⟩)))
def YL (c:Nat) (x0 x1:AV):Prog:=.op (.len 0 x0) fun v1=>.op (.bin 0 .sub x1 v1) fun v2=>.op (.bin 0 .lss v2 (AV.int .i64 0)) fun v3=>.ite v3 (.fin [.val (AV.int .i64 (-1))]) (.loop [v2,AV.int .i64 0] (fun vs4=>.op (.len 0 x0) fun v6=>.op (.bin 0 .lss (g vs4 1) v6) fun v7=>.ite v7 (.op (.idx 1 x0 (g vs4 1)) fun v8=>.op (.ld1 v8) fun v9=>.op (.call c [v9,g vs4 0]) fun v10=>.op (.bin 0 .lss v10 (AV.int .i64 0)) fun v11=>.ite v11 (.fin [.val (AV.int .i64 (-1))]) (.op (.bin 0 .add (g vs4 1) (AV.int .i64 1)) fun v12=>.leaf 0 [v10,v12])) (.leaf 2 [g vs4 0,g vs4 1])) fun t5 vs4=>aB t5 1 (.leaf 1 vs4) (aB t5 2 (.fin [.val (g vs4 0)]) .bad))
theorem ajO [Sz α] {c:Nat} {xs:List (List α)} (hc:SzL α P c) (ok:∀ x∈xs,Cel.ok x) {x0:AV} {F:List Nat} {b:Int} (r:au h x0 xs F) (h0:0≤b) (h1:b≤1048576):
  (YL c x0 (.int .i64 b)).awp P h (Post (.int .i64 (szr b (xs.length+szs xs))) h):=by
 have hsm:=r.small
 unfold YL
 refine bP r (vU ?_)
 rw[kL (by omega) (by omega)]
 refine iH (fun hl=>dM (eY ⟨rfl,?_,Ext.refl _⟩)) (fun hl=>dP ?_)
 ·simp only[szr];rw[if_neg (by omega)]
 refine aT xs.length (fun i vs h1=>vs=[.int .i64 (b - xs.length - szs (xs.take i)),.int .i64 (i:Int)]∧0≤b - xs.length - szs (xs.take i)∧i≤xs.length∧h1=h) ⟨by simp[szs],by simp[szs];omega,Nat.zero_le _,rfl⟩ ?_
 rintro i vs h1 _ ⟨rfl,hb,hi,rfl⟩
 refine bP r (iH ?_ ?_)
 ·intro hlt
  have hlt:i < xs.length:=by simp[g] at hlt;exact hlt
  obtain⟨x,hx,_,htk⟩:=aP hlt
  have hs:=Wn htk
  have hle:=jJ xs (i+1)
  refine dM (bV r hx rfl ?_)
  rintro bb o _ Fi a ⟨v0,rfl,rx⟩ _
  refine vF a (Ext.refl _) (aJ (hc x (ok x (List.mem_of_getElem? hx)) v0 Fi _ h1 rx hb (by omega)) ?_)
  have hsz:x.length+szs x=Sz.sz x:=rfl
  rw[hsz]
  refine iH (fun hl=>dM (eY ⟨rfl,?_,Ext.refl _⟩)) (fun hl=>dP ?_)
  ·simp only[szr] at hl ⊢
   split at hl
   ·omega
   ·rw[if_neg (by omega)]
  ·refine jc (j:=i) (by omega) ?_
   refine dQ (nexts ?_)
   have:szr (b - xs.length - szs (xs.take i)) (Sz.sz x)=b - xs.length - szs (xs.take (i+1)):=by
    simp only[szr] at hl ⊢
    split at hl
    ·rename_i hh;rw[if_pos hh];omega
    ·omega
   rw[this] at hl ⊢
   exact⟨hlt,rfl,by omega,hlt,rfl⟩
 ·intro hge
  have:i=xs.length:=by simp[g] at hge;omega
  subst this
  rw[List.take_length] at hb
  refine dP (dQ (zk (eY ⟨rfl,?_,Ext.refl _⟩)))
  simp only[szr,g0,List.take_length]
  rw[if_pos (by omega)]
  rw[show b - ((xs.length+szs xs:Nat):Int)=b - xs.length - szs xs by omega]
end
section
variable{h:AH} {F G H:List Nat}
theorem akK (a:∀ c∈F,c ∉ G) (b:∀ c∈F,c ∉ H):∀ c∈F,c ∉ G++H:=fun c hc hm=>by
 rcases List.mem_append.1 hm with hm|hm
 ·exact a c hc hm
 ·exact b c hc hm
theorem Ng (d:∀ c∈F,c ∉ G++H):∀ c∈F,c ∉ G:=fun c hc hm=>d c hc (List.mem_append_left _ hm)
theorem Iu (d:∀ c∈F,c ∉ G++H):∀ c∈F,c ∉ H:=fun c hc hm=>d c hc (List.mem_append_right _ hm)
theorem dV (d:∀ c∈F,c ∉ G:=by(repeat(first|assumption|with_reducible apply akK|exact kK))):∀ c∈F,c ∉ G:=d
end
end Go.Ab
end
section
namespace Go.Ab
open Go.RowKit
section
variable{α:Type} [Cel α] {P:Program} {h:AH}
def qP (α:Type) [Cel α] (P:Program) (h:AH) (f:FuncId) (caps:List AV) (xs:List α) (p:α→Bool):Prop:=∀ (x:α) (cs:List AV) (F:List Nat),x∈xs→Cel.rep h x cs F→aM P f (.agg cs::caps) h (.bool (p x))
theorem VQ {w:Nat} (hw:w=Cel.w α) {xs:List α} {x0:AV} {F:List Nat} {f:FuncId} {caps:List AV} {p:α→Bool} (r:au h x0 xs F) (hf:qP α P h f caps xs p):
  (Ik w x0 (.fn f caps)).awp P h (Post (.int .i64 (idx p xs)) h):=by
 subst hw
 have hsm:=r.small
 have hpos:=Cel.pos (α:=α)
 unfold Ik
 refine bP r ?_
 refine aT xs.length (fun i vs h1=>vs=[.int .i64 (i:Int)]∧i≤xs.length∧h1=h∧∀ j y,j < i→xs[j]? =some y→p y=false) ⟨rfl,Nat.zero_le _,rfl,fun j y hj=>by omega⟩ ?_
 rintro i vs h1 _ ⟨rfl,hi,rfl,hn⟩
 refine iH ?_ ?_
 ·intro hlt
  have hlt:i < xs.length:=by simp[g] at hlt;exact hlt
  obtain⟨x,hx,_,htk⟩:=aP hlt
  refine dM (bV r hx rfl ?_)
  intro bb o cs Fi a rx _
  refine jf a (Ext.refl _) hpos (by rw[List.take_of_length_le (by rw[Cel.len rx];exact Nat.le_refl _)]) (Cel.len rx) (sU (hf x cs Fi (List.mem_of_getElem? hx) rx) (yT ?_ ?_))
  ·intro hp
   exact eY ⟨rfl,by rw[wu hx hp hn];rfl,Ext.refl _⟩
  ·intro hp
   refine jc (j:=i) (by omega) ?_
   refine dQ (nexts ?_)
   refine⟨hlt,rfl,hlt,rfl,fun j y hj hy=>?_⟩
   by_cases e:j=i
   ·subst e;rw[hx] at hy;cases hy;exact hp
   ·exact hn j y (by omega) hy
 ·intro hge
  have:i=xs.length:=by simp[g] at hge;omega
  subst this
  exact dP (dQ (zk (eY ⟨rfl,by rw[BO hn],Ext.refl _⟩)))
end
section
variable{P:Program} {h:AH} {Q:Nat→List AV→AH→Prop} {k:AV→Prog}
theorem Mw {n:Nat} {z y:Int} {v:AV} {xs:List Int} {F:List Nat} (r:au h v xs F) (o:Own n h F) (hz:0≤z) (hl:z < xs.length)
  (hk:∀ h',(∀ h0,Ext h0 h→h0.n≤n→Ext h0 h')→Kp h h' F→h'.n=h.n→au h' v (xs.set z.toNat y) F→Own n h' F→(k (.tup [])).awp P h' Q):
  (Prog.op (.idx 1 v (.int .i64 z)) fun a=>.op (.st 1 a (.int .i64 y)) k).awp P h Q:=by
 obtain⟨x,hx,-,-⟩:=aP (show z.toNat < xs.length by omega)
 obtain⟨b,off,A,E,R,F1,Fi,F2,rfl,rfl,hb,hlv,hes,hcs,hA,⟨rfl,rfl⟩,back⟩:=r.zip hx
 have hnd:=List.nodup_cons.1 o.1
 have hmi:(h.get b).st=0:=(o.2 b (by simp)).2
 have hg:h.get b=⟨A++([.int .i64 x]++R),1,0⟩:=by
  have:h.get b=⟨(h.get b).cells,(h.get b).es,(h.get b).st⟩:=rfl
  rw[this,hcs,hes,hmi];rfl
 have hkp:Kp h (h.upd b ⟨A++([.int .i64 y]++R),1,0⟩) (b::(F1++([]++F2))):=⟨by simp,fun c hc hn=>by
  have:c≠b:=fun e=>hn (by simp[e])
  simp[this]⟩
 have e1:z=((z.toNat:Nat):Int):=by omega
 rw[e1]
 refine mK (by omega) ?_
 refine Ig (j:=0) (E:=[.int .i64 x]) (E':=[.int .i64 y]) hg hA rfl rfl ⟨by simp,by simp[splice]⟩ ?_
 refine hk _ (fun h0 e hn0=>hkp.ext e fun c hc=>by have:=(o.2 c hc).1;omega) hkp (by simp) ?_ ⟨o.1,fun c hc=>⟨(o.2 c hc).1,?_⟩⟩
 ·refine back _ y [.int .i64 y] [] (by simp) (by simp;rfl) (by simp[live]) (by simpa using hb) (fun c hc=>?_) ⟨rfl,rfl⟩
  have h1:c≠b:=fun e=>hnd.1 (by subst e;simpa using hc)
  exact⟨by simp[h1],by simpa using r.lt c (by rcases List.mem_append.1 hc with hc|hc<;>simp[hc])⟩
 ·by_cases e:c=b
  ·subst e;simp
  ·simp[e];exact(o.2 c hc).2
end
section
variable{P:Program} {h:AH} {Q:Nat→List AV→AH→Prop} {k:AV→Prog}
theorem aS {f:FuncId} {args:List AV} {p:Prop} (c:aM P f args h (.bool (bp p))) (h1:p→(k (.bool true)).awp P h Q) (h2: ¬p→(k (.bool false)).awp P h Q):(Prog.op (.call f args) k).awp P h Q:=bU c (fun e=>h1 (tH e)) fun e=>h2 (Gr e)
theorem bx {p q:Prop} (n: ¬p:=by intro _;first|omega|contradiction):p→q:=fun h=>(n h).elim
theorem bo {p q:Prop} (n: ¬p:=by intro _;omega):p→q:=fun h=>(n h).elim
end
theorem gS {A B:Prop} (hb:B) (s:B→A:=by intro hb_;with_reducible refine amZ ?_;simp only[g0,g1,g2];exact hb_):A:=s hb
end Go.Ab
end
