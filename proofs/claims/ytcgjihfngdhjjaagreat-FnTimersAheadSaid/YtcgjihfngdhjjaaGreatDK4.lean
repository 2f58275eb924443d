import Derived.Test.YtcgjihfngdhjjaaGreatDK3
import Derived.Test.YtcgjihfngdhjjaaGreatDK2
set_option linter.unusedSimpArgs false
set_option linter.unusedVariables false
section
namespace Go.Ab
open Go.RowKit
theorem aV {p:Prop} (h:p:=by(first|omega|(simp only[aJ,aN];omega)|(simp only[aJ,aN] at *;omega))):p:=h
theorem aio {h0 h:AH} {n:Nat} {X:List Nat} (o:Own n h X) (hn:h0.n≤n):∀ b∈X,h0.n≤b:=fun b hb=>Nat.le_trans hn (o.2 b hb).1
theorem aI {a b:AH} (e:Ext a b:=by(repeat(first|assumption|exact Ext.refl _|refine Ext.push ?_ _|refine Ext.upd ?_ aV _|refine Ext.trans ?_ (by assumption)))):Ext a b:=e
def LD (h:AH) (b o:Nat) (v:AV):Prop:=(h.get b).cells[o]? =some v∧live h b
def LDN (h:AH) (n b o:Nat) (cs:List AV):Prop:=((h.get b).cells.drop o).take n=cs∧0 < n∧cs.length=n∧live h b
section
variable{h h0:AH}
theorem I8 {b o j:Nat} {v:AV} {cs:List AV} (a:At h b o cs) (hv:cs[j]? =some v):LD h b (o+j) v:=⟨a.get hv,a.2.1⟩
theorem YA {b o:Nat} {v:AV} {cs:List AV} (a:At h b o cs) (hv:cs[0]? =some v):LD h b o v:=I8 a hv
theorem Yz {b o i j:Nat} {v:AV} {cs:List AV} (a:At h b o cs) (hv:cs[i+j]? =some v):LD h b (o+i+j) v:=by rw[Nat.add_assoc];exact I8 a hv
theorem XG {b o j n:Nat} {cs cs':List AV} (a:At h b o cs) (n0:0 < n) (hc:(cs.drop j).take n=cs') (hn:cs'.length=n):LDN h n b (o+j) cs':=by
 have a':=(a.drop j).take n
 rw[hc] at a'
 have:=a'.2.2
 rw[hn] at this
 exact⟨this,n0,hn,a'.2.1⟩
theorem aj3 {b o i j n:Nat} {cs cs':List AV} (a:At h b o cs) (n0:0 < n) (hc:(cs.drop (i+j)).take n=cs') (hn:cs'.length=n):LDN h n b (o+i+j) cs':=by rw[Nat.add_assoc];exact XG a n0 hc hn
theorem YH {b o i j:Nat} {v:AV} (x:LD h b (o+i+j) v):LD h b (o+i+j) v:=x
theorem YI {b o j:Nat} {v:AV} (x:LD h b (o+j) v):LD h b (o+j) v:=x
theorem ak7 {b n o i j:Nat} {v:List AV} (x:LDN h n b (o+i+j) v):LDN h n b (o+i+j) v:=x
theorem YG {b n o j:Nat} {v:List AV} (x:LDN h n b (o+j) v):LDN h n b (o+j) v:=x
def WR (h:AH) (b o:Nat) (xs:List AV) (h':AH):Prop:=mine h b∧o+xs.length≤(h.get b).cells.length∧b < h.n∧h'=h.upd b {h.get b with cells:=splice (h.get b).cells o xs}
structure S0 (cs xs cs':List AV):Prop where
 a:xs.length≤cs.length
 b:xs++cs.drop xs.length=cs'
structure SP (cs:List AV) (o:Nat) (xs cs':List AV):Prop where
 a:o+xs.length≤cs.length
 b:splice cs o xs=cs'
theorem akC {cs:List AV}:S0 cs [] cs:=⟨by simp,by simp⟩
theorem akD {c x:AV} {cs xs cs':List AV} (s:S0 cs xs cs'):S0 (c::cs) (x::xs) (x::cs'):=⟨by have:=s.1;simp;omega,by simp[s.2]⟩
theorem akx {cs xs cs':List AV} (s:S0 cs xs cs'):SP cs 0 xs cs':=⟨by have:=s.1;omega,by simp[splice,s.2]⟩
theorem akw {c:AV} {o:Nat} {cs xs cs':List AV} (s:SP cs o xs cs'):SP (c::cs) (o+1) xs (c::cs'):=by
 obtain⟨h1,rfl⟩:=s
 refine⟨by simp;omega,?_⟩
 unfold splice
 rw[show o+1+xs.length=o+xs.length+1 by omega];simp
structure T0 (n:Nat) (cs cs':List AV):Prop where
 a:cs.take n=cs'
 b:cs'.length=n
structure TK (j n:Nat) (cs cs':List AV):Prop where
 a:(cs.drop j).take n=cs'
 b:cs'.length=n
theorem aku {cs:List AV}:T0 0 cs []:=⟨by simp,rfl⟩
theorem akt {c:AV} {n:Nat} {cs cs':List AV} (s:T0 n cs cs'):T0 (n+1) (c::cs) (c::cs'):=⟨by simp[s.1],by simp[s.2]⟩
theorem akq {n:Nat} {cs cs':List AV} (s:T0 n cs cs'):TK 0 n cs cs':=⟨by simpa using s.1,s.2⟩
theorem akp {c:AV} {j n:Nat} {cs cs':List AV} (s:TK j n cs cs'):TK (j+1) n (c::cs) cs':=⟨by simpa using s.1,s.2⟩
theorem X7 {o:Nat} {cs cs' xs:List AV} {es:Nat} (s:SP cs o xs cs'):WR (h.push ⟨cs,es,0⟩) h.n o xs (h.push ⟨cs',es,0⟩):=by
 obtain⟨ho,rfl⟩:=s
 refine⟨by simp[mine],by simpa using ho,by simp,?_⟩
 simp only[LC,if_true,QV]
theorem ldw {b o n:Nat} {cs:List AV} (a:At h b o cs) (n0:0 < n) (hn:cs.length=n):LDN h n b o cs:=by
 subst hn
 exact⟨a.2.2,n0,rfl,a.2.1⟩
theorem XF {b o j n:Nat} {cs cs':List AV} (a:At h b o cs) (n0:0 < n) (t:TK j n cs cs'):LDN h n b (o+j) cs':=XG a n0 t.1 t.2
theorem aj2 {b o i j n:Nat} {cs cs':List AV} (a:At h b o cs) (n0:0 < n) (t:TK (i+j) n cs cs'):LDN h n b (o+i+j) cs':=aj3 a n0 t.1 t.2
theorem X6 {b o:Nat} {xs:List AV} {h':AH} {k:Blk} (w:WR h b o xs h'):WR (h.push k) b o xs (h'.push k):=by
 obtain⟨w1,w2,w3,rfl⟩:=w
 have e:b≠h.n:=by omega
 refine⟨by simpa[mine,e] using w1,by simpa[e] using w2,by simp;omega,?_⟩
 rw[SN w3];simp[e]
end
section
variable{α:Type} [Cel α] {P:Program} {h h0 h':AH} {Q:Nat→List AV→AH→Prop} {k:AV→Prog}
theorem tJ {b o:Nat} {v:AV} (l:LD h b o v) (hk:(k v).awp P h Q):(Prog.op (.ld1 (.ptr b o)) k).awp P h Q:=Xh l.1 l.2 hk
theorem qP {n b o:Nat} {cs:List AV} (l:LDN h n b o cs) (hk:(k (.agg cs)).awp P h Q):(Prog.op (.ldn n (.ptr b o)) k).awp P h Q:=Xg l.1 l.2.1 l.2.2.1 l.2.2.2 hk
theorem kE {n b o:Nat} {x:AV} {xs:List AV} (hx:x.cells? =some xs) (hn:xs.length=n) (w:WR h b o xs h') (hk:(k (.tup [])).awp P h' Q):(Prog.op (.st n (.ptr b o) x) k).awp P h Q:=by
 obtain⟨w1,w2,w3,rfl⟩:=w
 exact II w1 hx hn (by omega) hk
theorem zK {n b o:Nat} {cs:List AV} {p:Prog} (l:LDN h n b o cs) (hk:p.awp P h Q):(Prog.chk (.ldn n (.ptr b o)) (.agg cs) p).awp P h Q:=by
 refine⟨?_,hk⟩
 have:=qP (P:=P) (k:=fun v=>.leaf 0 [v]) (Q:=fun t vs h'=>vs=[.agg cs]∧h'=h) l ⟨rfl,rfl⟩
 simp only[Prog.awp,AOp.go,List.cons.injEq,and_true] at this
 simp only[AOp.still,AOp.go,and_true]
 exact this
theorem xk {b o:Nat} {v:AV} {p:Prog} (l:LD h b o v) (hk:p.awp P h Q):(Prog.chk (.ld1 (.ptr b o)) v p).awp P h Q:=by
 refine⟨?_,hk⟩
 have:=tJ (P:=P) (k:=fun v=>.leaf 0 [v]) (Q:=fun t vs h'=>vs=[v]∧h'=h) l ⟨rfl,rfl⟩
 simp only[Prog.awp,AOp.go,List.cons.injEq,and_true] at this
 simp only[AOp.still,AOp.go,and_true]
 exact this
theorem vG {v:AV} {xs:List α} {F:List Nat} (r:ah h0 v xs F) (hk:(k (.int .i64 xs.length)).awp P h Q):(Prog.op (.len 0 v) k).awp P h Q:=eG r hk
theorem xR {es n:Nat} {zero cs:List AV} {parts:List (Nat × Nat × AV)} (hc:dD zero parts=some cs) (h1:n * es≤16777216) (h2:cs.length=n * es) (hk:(k (.sl h.n 0 n)).awp P (h.push ⟨cs,es,0⟩) Q):(Prog.op (.aS es n zero parts) k).awp P h Q:=zl hc h1 h2 hk
theorem Yi {v:AV}:(RV.val v).get h=some v:=rfl
theorem Yj {b o n:Nat} {cs:List AV} (l:LDN h n b o cs):(RV.cn n (.ptr b o)).get h=some (.agg cs):=by
 obtain⟨h1,h0,h3,h2⟩:=l
 have:o+n≤(h.get b).cells.length:=by
  have:=congrArg List.length h1
  simp only[List.length_take,List.length_drop] at this;omega
 have h2:(h.get b).st≠2:=h2
 simp only[RV.get,h2,if_false,this,if_true,h1]
theorem K9 {o:AOp} {v:AV} {p:Prog} (hk:(Prog.chk o v p).awp P h Q):(Prog.lN (.bool true) true o v p).awp P h Q:=⟨by simpa using hk.1,hk.2⟩
theorem af3 {o:AOp} {v:AV} {p:Prog} (hk:(Prog.chk o v p).awp P h Q):(Prog.lN (.bool false) false o v p).awp P h Q:=⟨by simpa using hk.1,hk.2⟩
theorem af2 {o:AOp} {v:AV} {p:Prog} (hk:p.awp P h Q):(Prog.lN (.bool true) false o v p).awp P h Q:=⟨by simp,hk⟩
theorem Ub {o:AOp} {v:AV} {p:Prog} (hk:p.awp P h Q):(Prog.lN (.bool false) true o v p).awp P h Q:=⟨by simp,hk⟩
theorem ai8 {a b:Bool} (h1:a=b→(k (.bool true)).awp P h Q) (h2: ¬ a=b→(k (.bool false)).awp P h Q):(Prog.op (.bin 2 .eql (.bool a) (.bool b)) k).awp P h Q:=by
 refine aiU ?_
 by_cases e:a=b
 ·simpa[e] using h1 e
 ·have:(a == b)=false:=by simpa using e
  rw[this];exact h2 e
theorem ai7 {a b:Bool} (h1: ¬ a=b→(k (.bool true)).awp P h Q) (h2:a=b→(k (.bool false)).awp P h Q):(Prog.op (.bin 2 .neq (.bool a) (.bool b)) k).awp P h Q:=by
 refine Wq ?_
 by_cases e:a=b
 ·simpa[e] using h2 e
 ·have:(a == b)=false:=by simpa using e
  rw[this];exact h1 e
end
def Bk (h:AH) (b:Nat) (cs:List AV) (es:Nat):Prop:=b < h.n∧h.get b=⟨cs,es,0⟩
section
variable{g h:AH} {b c o n es:Nat} {cs cs' xs:List AV} {k:Blk} {X:List Nat}
theorem gF:Bk (h.push ⟨cs,es,0⟩) h.n cs es:=⟨by simp,by simp⟩
theorem ahw (e:b=h.n):Bk (h.push ⟨cs,es,0⟩) b cs es:=by subst e;exact gF
theorem ahA (e:b=h.n):At (h.push ⟨cs,es,0⟩) b 0 cs:=by subst e;exact oV
theorem aiN (e:b=c) (hb:b < h.n):Bk (h.upd c ⟨cs,es,0⟩) b cs es:=by subst e;exact⟨by simpa using hb,by simp⟩
theorem iy (a:Bk h b cs es):Bk (h.push k) b cs es:=by
 obtain⟨h1,h2⟩:=a
 have e:b≠h.n:=by omega
 exact⟨by simp;omega,by simp[e,h2]⟩
theorem gG (hb:b < h.n):Bk (h.upd b ⟨cs,es,0⟩) b cs es:=⟨by simpa using hb,by simp⟩
theorem kr (a:Bk h b cs es) (hne:b≠c):Bk (h.upd c k) b cs es:=⟨by simpa using a.1,by simp[hne,a.2]⟩
theorem fq (e:Ext g h) (a:Bk g b cs es):Bk h b cs es:=⟨Nat.lt_of_lt_of_le a.1 e.1,by rw[e.2 b a.1];exact a.2⟩
theorem bI (e:Kp g h X) (a:Bk g b cs es) (hX:b ∉ X):Bk h b cs es:=⟨Nat.lt_of_lt_of_le a.1 e.1,by rw[e.2 b a.1 hX];exact a.2⟩
theorem xP (a:Bk h b cs es):At h b 0 cs:=⟨a.1,by simp[live,a.2],by simp[a.2]⟩
theorem Wu (a:At h b o cs) (hne:b≠c):At (h.upd c k) b o cs:=⟨by simpa using a.1,by have:=a.2.1;simpa[live,hne] using this,by have:=a.2.2;simpa[hne] using this⟩
theorem Wv (e:Ext g h) (a:At g b o cs):At h b o cs:=a.ext e
theorem Xj (e:Kp g h X) (a:At g b o cs) (hX:b ∉ X):At h b o cs:=by
 have:=e.2 b a.1 hX
 exact⟨Nat.lt_of_lt_of_le a.1 e.1,by have h2:=a.2.1;unfold live at h2 ⊢;rw[this];exact h2,by rw[this];exact a.2.2⟩
theorem Wt (hb:b < h.n):At (h.upd b ⟨cs,es,0⟩) b 0 cs:=xP (gG hb)
theorem qO (a:Bk h b cs es) (s:SP cs o xs cs'):WR h b o xs (h.upd b ⟨cs',es,0⟩):=by
 obtain⟨ho,rfl⟩:=s
 refine⟨by simp[mine,a.2],by simpa[a.2] using ho,a.1,by rw[a.2]⟩
end
section
variable{α:Type} [Cel α] {g h:AH} {v:AV} {xs:List α} {F X:List Nat} {b n n0:Nat} {k:Blk}
theorem dU (r:ah h v xs F):ah (h.push k) v xs F:=r.ext ((Ext.refl h).push k)
theorem dH (r:ah h v xs F) (hb:b ∉ F):ah (h.upd b k) v xs F:=r.keep fun c hc=>⟨by have:c≠b:=fun e=>hb (e▸hc);simp[this],by simpa using r.lt c hc⟩
theorem iG (e:Ext g h) (r:ah g v xs F):ah h v xs F:=r.ext e
theorem aK (e:Kp g h X) (r:ah g v xs F) (hX:∀ c∈F,c ∉ X):ah h v xs F:=r.kp e hX
theorem ah.cell (r:ah h v xs F):v.cells? =some [v]:=by
 rcases r with⟨rfl,_,_⟩|⟨b,off,F',cs,rfl,_⟩<;>rfl
theorem Cg (o:Own n0 g F) (hb:b < n0):b ∉ F:=fun hm=>by have:=(o.2 b hm).1;omega
theorem CB (r:ah g v xs F) (hb:g.n≤b):b ∉ F:=fun hm=>by have:=r.lt b hm;omega
theorem Cm (r:ah g v xs F) (o:Own n h X) (hn:g.n≤n):∀ c∈F,c ∉ X:=fun c hc hx=>by have:=r.lt c hc;have:=(o.2 c hx).1;omega
theorem Vi (o:Own n g F) (r:ah h v xs X) (hn:h.n≤n):∀ c∈F,c ∉ X:=fun c hc hx=>by have:=r.lt c hx;have:=(o.2 c hc).1;omega
def New (n:Nat) (h:AH) (v:AV) (xs:List α) (F:List Nat):Prop:=ah h v xs F∧Own n h F
end
def bU (n:Nat) (h:AH) (F:List Nat):Prop:=Own n h F∧∀ b∈F,b < h.n
section
variable{α:Type} [Cel α] {g h:AH} {v:AV} {xs:List α} {F X:List Nat} {b n n0:Nat} {k:Blk}
theorem XD (o:Own n0 h F) (r:ah h v xs F) (hn:n≤n0):bU n h F:=⟨o.mono hn fun _ _=>rfl,r.lt⟩
end
section
variable{g h:AH} {F X:List Nat} {b n n0:Nat} {k:Blk}
theorem WU:bU n h []:=⟨Own.nil,by simp⟩
theorem gy (r:bU n h F):bU n (h.push k) F:=⟨r.1.ext ((Ext.refl h).push k) r.2,fun b hb=>by have:=r.2 b hb;simp;omega⟩
theorem dM (r:bU n h F) (hb:b ∉ F):bU n (h.upd b k) F:=⟨r.1.mono (Nat.le_refl _) fun c hc=>by have:c≠b:=fun e=>hb (e▸hc);simp[this],fun b hb=>by simpa using r.2 b hb⟩
theorem jk (e:Ext g h) (r:bU n g F):bU n h F:=⟨r.1.ext e r.2,fun b hb=>Nat.lt_of_lt_of_le (r.2 b hb) e.1⟩
theorem bX (e:Kp g h X) (r:bU n g F) (hX:∀ c∈F,c ∉ X):bU n h F:=⟨r.1.mono (Nat.le_refl _) fun c hc=>e.2 c (r.2 c hc) (hX c hc),fun b hb=>Nat.lt_of_lt_of_le (r.2 b hb) e.1⟩
theorem ajo {G:List Nat} {m:Nat} (r:bU n h F) (r':bU m h G) (hn:n≤m) (d:∀ c∈F,c ∉ G):bU n h (F++G):=
 ⟨⟨List.nodup_append.2 ⟨r.1.1,r'.1.1,fun a ha b hb e=>d a ha (e▸hb)⟩,fun b hb=>by
  rcases List.mem_append.1 hb with hb|hb
  ·exact r.1.2 b hb
  ·exact⟨Nat.le_trans hn (r'.1.2 b hb).1,(r'.1.2 b hb).2⟩⟩,fun b hb=>by
  rcases List.mem_append.1 hb with hb|hb
  ·exact r.2 b hb
  ·exact r'.2 b hb⟩
end
theorem iL {b c:Nat} (h: ¬ b=c):b ∉ [c]:=fun hm=>h (List.mem_singleton.1 hm)
theorem kY {b:Nat} {F:List Nat} (h:b ∉ F:=by(first|assumption|exact Cg (by assumption) aV|exact CB (by assumption) aV|((with_reducible apply iL);(try simp only[aJ,aN]);omega))):b ∉ F:=h
theorem gJ {b:Nat} {F:List Nat} (h:b ∉ F):∀ c∈F,c ∉ [b]:=fun c hc hx=>h (List.mem_singleton.1 hx▸hc)
theorem ng {F X:List Nat} (h:∀ c∈F,c ∉ X:=by(first|exact fun _ h=>absurd h List.not_mem_nil|exact Cm (by assumption) (by assumption) aV|exact Vi (by assumption) (by assumption) aV|assumption|exact gJ kY)):∀ c∈F,c ∉ X:=h
theorem aO {h:AH} {b:Nat} {cs:List AV} {es:Nat} (a:Bk h b cs es:=by(repeat(first|assumption|with_reducible exact gF|((with_reducible apply ahw);(simp only[aJ,aN]<;>fail))|with_reducible apply iy|((with_reducible apply gG);exact aV)|((with_reducible apply aiN);(rfl);exact aV)|with_reducible apply kr|((with_reducible apply fq);assumption)|((with_reducible apply bI);assumption)|exact kY|exact aV))):Bk h b cs es:=a
theorem Cv {h:AH} {b o:Nat} {cs:List AV} (a:At h b o cs:=by(repeat(first|assumption|exact xP (by assumption)|with_reducible exact oV|((with_reducible apply ahA);(simp only[aJ,aN]<;>fail))|((with_reducible apply Wt);exact aV)|with_reducible apply At.push|with_reducible apply Wu|((with_reducible apply Wv);assumption)|((with_reducible apply Xj);assumption)|exact kY|exact aV))):At h b o cs:=a
theorem aB {α:Type} [Cel α] {h:AH} {v:AV} {xs:List α} {F:List Nat} (r:ah h v xs F:=by(repeat(first|assumption|exact ah.aA|with_reducible apply dU|with_reducible apply dH|((with_reducible apply iG);assumption)|((with_reducible apply aK);assumption)|exact kY|exact ng))):ah h v xs F:=r
theorem aY {n:Nat} {h:AH} {F:List Nat} (r:bU n h F:=by(repeat(first|exact XD (by assumption) (by assumption) aV|with_reducible apply gy|with_reducible apply dM|((with_reducible apply jk);assumption)|((with_reducible apply bX);assumption)|exact kY|exact ng))):Own n h F:=r.1
theorem bV {cs xs cs':List AV} {o:Nat} (s:SP cs o xs cs':=by(repeat(first|apply akx|apply akw|exact akC|apply akD))):SP cs o xs cs':=s
theorem LW {j n:Nat} {cs cs':List AV} (s:TK j n cs cs':=by(repeat(first|apply akq|apply akp|exact aku|apply akt))):TK j n cs cs':=s
theorem Ci {h:AH} {b o:Nat} {v:AV} (l:LD h b o v:=by(first|((with_reducible apply YH);exact Yz Cv (by rfl))|((with_reducible apply YI);exact I8 Cv (by rfl))|exact YA Cv (by rfl))):LD h b o v:=l
theorem uP {h:AH} {n b o:Nat} {cs:List AV} (l:LDN h n b o cs:=by(first|((with_reducible apply YG);exact XF Cv (by decide) LW)|exact ldw Cv (by decide) (by rfl))):LDN h n b o cs:=l
theorem LV {h h':AH} {b o:Nat} {xs:List AV} (w:WR h b o xs h':=by(repeat(first|exact X7 bV|with_reducible apply X6|exact qO aO bV))):WR h b o xs h':=w
theorem Cc {h:AH} {r:RV} {v:AV} (e:r.get h=some v:=by(first|with_reducible exact Yi|((with_reducible apply Yj);exact uP))):r.get h=some v:=e
theorem ajG {cs:List AV}:dD cs []=some cs:=rfl
theorem aiW {cs cs' out xs:List AV} {off size:Nat} {x:AV} {rest:List (Nat × Nat × AV)} (hx:x.cells? =some xs) (hn:xs.length=size) (s:SP cs off xs cs') (h:dD cs' rest=some out):dD cs ((off,size,x)::rest)=some out:=by
 obtain⟨s1,rfl⟩:=s
 subst hn
 simp only[dD,hx]
 rw[if_pos ⟨trivial,s1⟩];exact h
theorem kL {cs out:List AV} {ps:List (Nat × Nat × AV)} (h:dD cs ps=some out:=by(repeat(first|with_reducible exact ajG|with_reducible apply aiW|exact bV|rfl|exact ah.cell (by assumption)))):dD cs ps=some out:=h
theorem it {A B C:Prop} (f:B→A) (g:C→B):C→A:=fun c=>f (g c)
section
variable{B:Prop} {P:Program} {h:AH} {Q:Nat→List AV→AH→Prop} {k:AV→Prog}
theorem vF {a:AV} (y:B→(Prog.op (.ld1 a) k).awp P h Q):B→(Prog.op (.ld1 a) k).awp P h Q:=y
theorem tu {n:Nat} {a:AV} (y:B→(Prog.op (.ldn n a) k).awp P h Q):B→(Prog.op (.ldn n a) k).awp P h Q:=y
theorem vE {n:Nat} {a:AV} (y:B→(Prog.op (.len n a) k).awp P h Q):B→(Prog.op (.len n a) k).awp P h Q:=y
theorem zR {a:AV} (y:B→(Prog.op (.box a) k).awp P h Q):B→(Prog.op (.box a) k).awp P h Q:=y
theorem vJ {n:Nat} {a:AV} {x:AV} (y:B→(Prog.op (.st n a x) k).awp P h Q):B→(Prog.op (.st n a x) k).awp P h Q:=y
theorem qM {n:Nat} {a:AV} (y:B→(Prog.op (.ext a n) k).awp P h Q):B→(Prog.op (.ext a n) k).awp P h Q:=y
theorem uT {z:List AV} {ps:List (Nat × Nat × AV)} (y:B→(Prog.op (.build z ps) k).awp P h Q):B→(Prog.op (.build z ps) k).awp P h Q:=y
theorem wJ {n:Nat} {j:Nat} {z:List AV} {ps:List (Nat × Nat × AV)} (y:B→(Prog.op (.aS n j z ps) k).awp P h Q):B→(Prog.op (.aS n j z ps) k).awp P h Q:=y
theorem aiA {a x:AV} (y:B→(Prog.op (.jM a x) k).awp P h Q):B→(Prog.op (.jM a x) k).awp P h Q:=y
theorem aiB {r:RV} (y:B→(Prog.fin [r]).awp P h Q):B→(Prog.fin [r]).awp P h Q:=y
theorem V8 {r r2:RV} (y:B→(Prog.fin [r,r2]).awp P h Q):B→(Prog.fin [r,r2]).awp P h Q:=y
theorem zF {n:Nat} {a v:AV} {p:Prog} (y:B→(Prog.chk (.ldn n a) v p).awp P h Q):B→(Prog.chk (.ldn n a) v p).awp P h Q:=y
theorem wZ {a v:AV} {p:Prog} (y:B→(Prog.chk (.ld1 a) v p).awp P h Q):B→(Prog.chk (.ld1 a) v p).awp P h Q:=y
theorem zT {n:Nat} {a x:AV} (y:B→(Prog.op (.bin n .add a x) k).awp P h Q):B→(Prog.op (.bin n .add a x) k).awp P h Q:=y
theorem MG {n:Nat} {a x:AV} (y:B→(Prog.op (.bin n .sub a x) k).awp P h Q):B→(Prog.op (.bin n .sub a x) k).awp P h Q:=y
theorem MH {n:Nat} {a x:AV} (y:B→(Prog.op (.bin n .quo a x) k).awp P h Q):B→(Prog.op (.bin n .quo a x) k).awp P h Q:=y
theorem MR {a b:Int} (ha:0≤a) (hb:0 < b) (h2:a≤9223372036854775807) (hk:(k (.int .i64 (a / b))).awp P h Q):(Prog.op (.bin 0 .quo (.int .i64 a) (.int .i64 b)) k).awp P h Q:=by
 refine aiQ (by omega) ?_
 have h0:0≤a / b:=Int.ediv_nonneg ha (by omega)
 have h3:a / b≤a:=Int.ediv_le_self _ ha
 rw[Int.tdiv_eq_ediv_of_nonneg ha,kJ (by omega) (by omega)];exact hk
theorem Xb {n:Nat} {a x:AV} (y:B→(Prog.op (.bin n .rem a x) k).awp P h Q):B→(Prog.op (.bin n .rem a x) k).awp P h Q:=y
end
theorem vs {A B:Prop} (hb:B) (s:B→A:=by((apply it;(first|(with_reducible first|exact dL|exact dO|exact pI|exact iH|exact Wo|exact bN|exact mY|exact sF|exact uU|exact sJ|exact ML|exact iF|exact uM|exact wK|exact qF|exact TY|exact jB|exact gP|exact Vs|exact Vq|exact ajJ|exact Vr|exact K9|exact af3)|((with_reducible apply vF);first|exact tJ Ci)|((with_reducible apply tu);first|exact qP uP)|((with_reducible apply vE);first|exact vG (by assumption))|((with_reducible apply zR);first|exact tC (by rfl))|((with_reducible apply vJ);first|exact kE (by first|rfl|exact ah.cell (by assumption)) (by rfl) LV)|((with_reducible apply qM);first|exact mG (by rfl))|((with_reducible apply zT);first|exact nJ (by omega)|exact sQ (by omega) (by omega))|((with_reducible apply MG);exact Hl (by omega) (by omega))|((with_reducible apply MH);exact MR (by omega) (by decide) (by omega))|((with_reducible apply uT);first|exact uW kL)|((with_reducible apply wJ);first|exact xR kL (by decide) (by rfl))|((with_reducible apply zF);exact zK uP)|((with_reducible apply wZ);exact xk Ci)));(repeat(apply it;(first|(with_reducible first|exact dL|exact dO|exact pY|exact pI|exact iH|exact Wo|exact bN|exact mY|exact sF|exact uU|exact sJ|exact iF|exact uM|exact wK|exact qF|exact agG|exact TY|exact jB|exact Wp|exact gP|exact jf|exact dN|exact Vs|exact Vq|exact ai3|exact ajI|exact Vr|exact af2|exact Ub)|((with_reducible apply vF);first|exact tJ Ci)|((with_reducible apply tu);first|exact qP uP)|((with_reducible apply vE);first|exact vG (by assumption))|((with_reducible apply zR);first|exact tC (by rfl))|((with_reducible apply vJ);first|exact kE (by first|rfl|exact ah.cell (by assumption)) (by rfl) LV)|((with_reducible apply qM);first|exact mG (by rfl))|((with_reducible apply zT);first|exact nJ (by omega)|exact sQ (by omega) (by omega))|((with_reducible apply MG);exact Hl (by omega) (by omega))|((with_reducible apply Xb);exact CQ (by decide))|((with_reducible apply MH);exact MR (by omega) (by decide) (by omega))|((with_reducible apply uT);first|exact uW kL)|((with_reducible apply wJ);first|exact xR kL (by decide) (by rfl))|((with_reducible apply zF);exact zK uP)|((with_reducible apply wZ);exact xk Ci)|((with_reducible apply aiA);exact sx1 (by assumption))|((with_reducible apply aiB);exact LU Cc)|((with_reducible apply V8);exact Vn Cc Cc)|(exact je (by decide))|(exact jC (by decide)))));exact fun x=>x)):A:=s hb
theorem br {A B C:Prop} (b:B) (c:C) (s:B→C→A:=by(with_reducible first|exact ig|exact MN|exact zX|exact ajE|exact xD|exact Ig|exact aiP|exact ai8|exact ai7|exact CS)):A:=s b c
theorem ix {α:Type} [Cel α] {P:Program} {h h0:AH} {Q:Nat→List AV→AH→Prop} {k:AV→Prog} {v:AV} {xs:List α} {F:List Nat} {es i:Nat} {q:IntKind} {x:α} (hk:∀ b o cs Fi,At h0 b o cs→Cel.rep h0 x cs Fi→(∀ y∈Fi,y∈F)→(k (.ptr b o)).awp P h Q) (r:ah h0 v xs F:=by assumption) (hx:xs[i]? =some x:=by assumption) (hw:es=Cel.w α:=by rfl):(Prog.op (.idx es v (.int q i)) k).awp P h Q:=dw r hx hw hk
theorem ixi {α:Type} [Cel α] {P:Program} {h h0:AH} {Q:Nat→List AV→AH→Prop} {k:AV→Prog} {v:AV} {xs:List α} {F:List Nat} {es:Nat} {i:Int} {q:IntKind} {x:α} (hk:∀ b o cs Fi,At h0 b o cs→Cel.rep h0 x cs Fi→(∀ y∈Fi,y∈F)→(k (.ptr b o)).awp P h Q) (r:ah h0 v xs F:=by assumption) (hi:0≤i:=by omega) (hx:xs[i.toNat]? =some x:=by assumption) (hw:es=Cel.w α:=by rfl):(Prog.op (.idx es v (.int q i)) k).awp P h Q:=Ct r hi hx hw hk
end Go.Ab
end
section
namespace Go.Ab
open Go.RowKit
inductive Pol where
 |mk (kind n:Int) (key text:ByteArray) (l:List Pol)
namespace Pol
def kind:Pol→Int| .mk k _ _ _ _=>k
def n:Pol→Int| .mk _ n _ _ _=>n
def key:Pol→ByteArray| .mk _ _ k _ _=>k
def text:Pol→ByteArray| .mk _ _ _ t _=>t
def l:Pol→List Pol| .mk _ _ _ _ l=>l
def cs (x:Pol) (v:AV):List AV:=[.int .i64 x.kind,.int .i64 x.n,.str x.key,.str x.text,v]
end Pol
mutual
def Pol.qh (h:AH):Pol→List AV→List Nat→Prop
 | .mk k n s t l,cs,F=>∃ v,cs=[.int .i64 k,.int .i64 n,.str s,.str t,v]∧ShR h 5 v l.length (Pol.mJ h l) F
def Pol.mJ (h:AH):List Pol→List AV→List Nat→Prop
 |[],cs,F=>cs=[]∧F=[]
 |p::ps,cs,F=>∃ c1 c2 F1 F2,cs=c1++c2∧F=F1++F2∧Pol.qh h p c1 F1∧Pol.mJ h ps c2 F2
end
mutual
def Pol.okP:Pol→Prop
 | .mk k n s t l=>rng k∧rng n∧s.size≤maxLen∧t.size≤maxLen∧Pol.Dn l
def Pol.Dn:List Pol→Prop
 |[]=>True
 |p::ps=>Pol.okP p∧Pol.Dn ps
end
theorem Pol.len_ {h:AH}:∀ {x:Pol} {cs:List AV} {F:List Nat},Pol.qh h x cs F→cs.length=5
 | .mk k n s t l,cs,F,r=>by unfold Pol.qh at r;obtain⟨v,rfl,_⟩:=r;rfl
theorem ShR.lt {h:AH} {w n:Nat} {v:AV} {R:List AV→List Nat→Prop} {F:List Nat} (r:ShR h w v n R F) (hR:∀ cs F,R cs F→∀ b∈F,b < h.n):∀ b∈F,b < h.n:=by
 rcases r with⟨_,_,rfl⟩|⟨b,off,F',cs,_,rfl,h1,_,_,_,_,_,h2⟩
 ·simp
 ·intro x hx
  rcases List.mem_cons.1 hx with e|e
  ·rw[e];exact h1
  ·exact hR _ _ h2 x e
theorem ShR.keep {h h':AH} {w n:Nat} {v:AV} {R R':List AV→List Nat→Prop} {F:List Nat} (r:ShR h w v n R F) (k:∀ b∈F,h'.get b=h.get b∧b < h'.n) (hR:∀ cs F',(∀ b∈F',b∈F)→R cs F'→R' cs F'):ShR h' w v n R' F:=by
 rcases r with g|⟨b,off,F',cs,e1,rfl,h1,h2,h3,h4,h5,h6,h7⟩
 ·exact .inl g
 ·have kb:=k b (by simp)
  refine .inr ⟨b,off,F',cs,e1,rfl,kb.2,?_,?_,?_,h5,?_,hR _ _ (fun x hx=>by simp[hx]) h7⟩
  ·unfold live;rw[kb.1];exact h2
  ·rw[kb.1];exact h3
  ·rw[kb.1];exact h4
  ·rw[kb.1];exact h6
mutual
theorem Pol.lt_ {h:AH}:∀ (x:Pol) (cs:List AV) (F:List Nat),Pol.qh h x cs F→∀ b∈F,b < h.n
 | .mk k n s t l,cs,F,r=>by
  unfold Pol.qh at r;obtain⟨v,rfl,r⟩:=r
  exact r.lt (Pol.Yw l)
theorem Pol.Yw {h:AH}:∀ (x:List Pol) (cs:List AV) (F:List Nat),Pol.mJ h x cs F→∀ b∈F,b < h.n
 |[],cs,F,r=>by unfold Pol.mJ at r;obtain⟨_,rfl⟩:=r;simp
 |p::ps,cs,F,r=>by
  unfold Pol.mJ at r
  obtain⟨c1,c2,F1,F2,rfl,rfl,r1,r2⟩:=r
  intro b hb
  rcases List.mem_append.1 hb with hb|hb
  ·exact Pol.lt_ p c1 F1 r1 b hb
  ·exact Pol.Yw ps c2 F2 r2 b hb
end
mutual
theorem Pol.XH {h h':AH}:∀ (x:Pol) (cs:List AV) (F:List Nat),Pol.qh h x cs F→(∀ b∈F,h'.get b=h.get b∧b < h'.n)→Pol.qh h' x cs F
 | .mk k n s t l,cs,F,r,hk=>by
  unfold Pol.qh at r ⊢;obtain⟨v,rfl,r⟩:=r
  exact⟨v,rfl,r.keep hk fun cs F' hs r=>Pol.W9 l cs F' r fun b hb=>hk b (hs b hb)⟩
theorem Pol.W9 {h h':AH}:∀ (x:List Pol) (cs:List AV) (F:List Nat),Pol.mJ h x cs F→(∀ b∈F,h'.get b=h.get b∧b < h'.n)→Pol.mJ h' x cs F
 |[],cs,F,r,hk=>by unfold Pol.mJ at r ⊢;exact r
 |p::ps,cs,F,r,hk=>by
  unfold Pol.mJ at r ⊢
  obtain⟨c1,c2,F1,F2,rfl,rfl,r1,r2⟩:=r
  exact⟨c1,c2,F1,F2,rfl,rfl,Pol.XH p c1 F1 r1 fun b hb=>hk b (List.mem_append_left _ hb),Pol.W9 ps c2 F2 r2 fun b hb=>hk b (List.mem_append_right _ hb)⟩
end
instance:Cel Pol where
 w:=5
 ok:=Pol.okP
 rep:=Pol.qh
 pos:=by decide
 len:=fun r=>Pol.len_ r
 lt:=fun r=>Pol.lt_ _ _ _ r
 keep:=fun r k=>Pol.XH _ _ _ r k
theorem Pol.LB {h:AH}:∀ {l:List Pol} {cs:List AV} {F:List Nat},bR h l cs F↔Pol.mJ h l cs F
 |[],cs,F=>by simp[bR,Pol.mJ]
 |p::ps,cs,F=>by
  simp only[bR,Pol.mJ]
  constructor
  ·rintro⟨c1,c2,F1,F2,e1,e2,r1,r2⟩;exact⟨c1,c2,F1,F2,e1,e2,r1,Pol.LB.1 r2⟩
  ·rintro⟨c1,c2,F1,F2,e1,e2,r1,r2⟩;exact⟨c1,c2,F1,F2,e1,e2,r1,Pol.LB.2 r2⟩
theorem Pol.gD {h:AH} {x:Pol} {cs:List AV} {F:List Nat}:Cel.rep h x cs F↔∃ v,cs=x.cs v∧ah h v x.l F:=by
 cases x with
 |mk k n s t l=>
  have e:bR h l=Pol.mJ h l:=by funext cs F;exact propext Pol.LB
  show Pol.qh h (.mk k n s t l) cs F↔∃ v,cs=(Pol.mk k n s t l).cs v∧ShR h 5 v l.length (bR h l) F
  rw[e]
  unfold Pol.qh
  rfl
theorem Pol.Md:∀ {l:List Pol},Pol.Dn l↔∀ x∈l,Cel.ok x
 |[]=>by simp[Pol.Dn]
 |p::ps=>by
  simp only[Pol.Dn,List.mem_cons,forall_eq_or_imp]
  exact and_congr Iff.rfl Pol.Md
structure Attr where
 key:ByteArray
 num:Bool
 n:Int
 text:ByteArray
def Attr.cs (x:Attr):List AV:=[.str x.key,.bool x.num,.int .i64 x.n,.str x.text]
instance:Cel Attr where
 w:=4
 ok:=fun x=>Cel.ok x.key∧Cel.ok x.n∧Cel.ok x.text
 rep:=fun h x cs F=>cs=x.cs∧F=[]
 pos:=by decide
 len:=by rintro h x cs F ⟨rfl,rfl⟩;rfl
 lt:=by rintro h x cs F ⟨rfl,rfl⟩;simp
 keep:=by rintro h h' x cs F r _;exact r
instance:Flat Attr where
 toCel:=inferInstance
 enc:=Attr.cs
 gD:=Iff.rfl
structure Span where
 trace:Int
 id:Int
 start:Int
 fin:Int
 err:Bool
 attrs:List Attr
def Span.cs (x:Span) (v0:AV):List AV:=[.int .i64 x.trace,.int .i64 x.id,.int .i64 x.start,.int .i64 x.fin,.bool x.err,v0]
instance:Cel Span where
 w:=6
 ok:=fun x=>Cel.ok x.trace∧Cel.ok x.id∧Cel.ok x.start∧Cel.ok x.fin∧Cel.ok x.attrs
 rep:=fun h x cs F=>∃ v,cs=x.cs v∧ah h v x.attrs F
 pos:=by decide
 len:=by rintro h x cs F ⟨v,rfl,_⟩;rfl
 lt:=by rintro h x cs F ⟨v,rfl,r⟩;exact r.lt
 keep:=by rintro h h' x cs F ⟨v,rfl,r⟩ k;exact⟨v,rfl,r.keep k⟩
structure Bucket where
 rate:Int
 aZ:Int
 tokens:Int
 at_:Int
def Bucket.cs (x:Bucket):List AV:=[.int .i64 x.rate,.int .i64 x.aZ,.int .i64 x.tokens,.int .i64 x.at_]
instance:Cel Bucket where
 w:=4
 ok:=fun x=>True∧True∧True∧True
 rep:=fun h x cs F=>cs=x.cs∧F=[]
 pos:=by decide
 len:=by rintro h x cs F ⟨rfl,rfl⟩;rfl
 lt:=by rintro h x cs F ⟨rfl,rfl⟩;simp
 keep:=by rintro h h' x cs F r _;exact r
instance:Flat Bucket where
 toCel:=inferInstance
 enc:=Bucket.cs
 gD:=Iff.rfl
structure Timer where
 id:Int
 trace:Int
 at_:Int
def Timer.cs (x:Timer):List AV:=[.int .i64 x.id,.int .i64 x.trace,.int .i64 x.at_]
instance:Cel Timer where
 w:=3
 ok:=fun x=>True∧True∧True
 rep:=fun h x cs F=>cs=x.cs∧F=[]
 pos:=by decide
 len:=by rintro h x cs F ⟨rfl,rfl⟩;rfl
 lt:=by rintro h x cs F ⟨rfl,rfl⟩;simp
 keep:=by rintro h h' x cs F r _;exact r
instance:Flat Timer where
 toCel:=inferInstance
 enc:=Timer.cs
 gD:=Iff.rfl
structure bn where
 now:Int
 near:List (List Timer)
 far:List (List Timer)
 rest:List Timer
def bn.cs (x:bn) (v0 v1 v2:AV):List AV:=[.int .i64 x.now,v0,v1,v2]
instance:Cel bn where
 w:=4
 ok:=fun x=>True∧Cel.ok x.near∧Cel.ok x.far∧Cel.ok x.rest
 rep:=fun h x cs F=>∃ v0 v1 v2 F0 F1 F2,cs=x.cs v0 v1 v2∧F=F0++(F1++(F2))∧ah h v0 x.near F0∧ah h v1 x.far F1∧ah h v2 x.rest F2
 pos:=by decide
 len:=by rintro h x cs F ⟨v0,v1,v2,F0,F1,F2,rfl,rfl,r0,r1,r2⟩;rfl
 lt:=by rintro h x cs F ⟨v0,v1,v2,F0,F1,F2,rfl,rfl,r0,r1,r2⟩;intro b hb;rcases List.mem_append.1 hb with hb|hb;exact r0.lt b hb;rcases List.mem_append.1 hb with hb|hb;exact r1.lt b hb;exact r2.lt b hb
 keep:=by rintro h h' x cs F ⟨v0,v1,v2,F0,F1,F2,rfl,rfl,r0,r1,r2⟩ k;exact⟨_,_,_,_,_,_,rfl,rfl,r0.keep fun b hb=>k b (List.mem_append_left _ hb),r1.keep fun b hb=>k b (List.mem_append_right _ (List.mem_append_left _ hb)),r2.keep fun b hb=>k b (List.mem_append_right _ (List.mem_append_right _ (hb)))⟩
structure Trail where
 id:Int
 stamp:Int
 first:Int
 spans:List Span
def Trail.cs (x:Trail) (v0:AV):List AV:=[.int .i64 x.id,.int .i64 x.stamp,.int .i64 x.first,v0]
instance:Cel Trail where
 w:=4
 ok:=fun x=>Cel.ok x.id∧Cel.ok x.stamp∧Cel.ok x.first∧Cel.ok x.spans
 rep:=fun h x cs F=>∃ v,cs=x.cs v∧ah h v x.spans F
 pos:=by decide
 len:=by rintro h x cs F ⟨v,rfl,_⟩;rfl
 lt:=by rintro h x cs F ⟨v,rfl,r⟩;exact r.lt
 keep:=by rintro h h' x cs F ⟨v,rfl,r⟩ k;exact⟨v,rfl,r.keep k⟩
structure aR where
 held:Int
 l:List Trail
def aR.cs (x:aR) (v0:AV):List AV:=[.int .i64 x.held,v0]
instance:Cel aR where
 w:=2
 ok:=fun x=>Cel.ok x.held∧Cel.ok x.l
 rep:=fun h x cs F=>∃ v,cs=x.cs v∧ah h v x.l F
 pos:=by decide
 len:=by rintro h x cs F ⟨v,rfl,_⟩;rfl
 lt:=by rintro h x cs F ⟨v,rfl,r⟩;exact r.lt
 keep:=by rintro h h' x cs F ⟨v,rfl,r⟩ k;exact⟨v,rfl,r.keep k⟩
structure iQ where
 dK:Int
 wait:Int
 budget:Int
 cache:Int
 queue:Int
 rate:Int
 aZ:Int
 rule:Pol
def iQ.cs (x:iQ) (v0:AV):List AV:=[.int .i64 x.dK,.int .i64 x.wait,.int .i64 x.budget,.int .i64 x.cache,.int .i64 x.queue,.int .i64 x.rate,.int .i64 x.aZ,.int .i64 x.rule.kind,.int .i64 x.rule.n,.str x.rule.key,.str x.rule.text,v0]
instance:Cel iQ where
 w:=12
 ok:=fun x=>Cel.ok x.dK∧Cel.ok x.wait∧Cel.ok x.budget∧Cel.ok x.cache∧Cel.ok x.queue∧Cel.ok x.rate∧Cel.ok x.aZ∧Cel.ok x.rule
 rep:=fun h x cs F=>∃ v,cs=x.cs v∧ah h v x.rule.l F
 pos:=by decide
 len:=by rintro h x cs F ⟨v,rfl,_⟩;rfl
 lt:=by rintro h x cs F ⟨v,rfl,r⟩;exact r.lt
 keep:=by rintro h h' x cs F ⟨v,rfl,r⟩ k;exact⟨v,rfl,r.keep k⟩
structure Itm where
 stamp:Int
 s:Span
def Itm.cs (x:Itm) (v0:AV):List AV:=[.int .i64 x.stamp,.int .i64 x.s.trace,.int .i64 x.s.id,.int .i64 x.s.start,.int .i64 x.s.fin,.bool x.s.err,v0]
instance:Cel Itm where
 w:=7
 ok:=fun x=>True∧Cel.ok x.s
 rep:=fun h x cs F=>∃ v,cs=x.cs v∧ah h v x.s.attrs F
 pos:=by decide
 len:=by rintro h x cs F ⟨v,rfl,_⟩;rfl
 lt:=by rintro h x cs F ⟨v,rfl,r⟩;exact r.lt
 keep:=by rintro h h' x cs F ⟨v,rfl,r⟩ k;exact⟨v,rfl,r.keep k⟩
structure Task where
 op:Int
 pc:Int
 s:Span
 trace:Int
 stamp:Int
 hand:List Itm
 h:Int
def Task.cs (x:Task) (v0 v1:AV):List AV:=[.int .i64 x.op,.int .i64 x.pc,.int .i64 x.s.trace,.int .i64 x.s.id,.int .i64 x.s.start,.int .i64 x.s.fin,.bool x.s.err,v0,.int .i64 x.trace,.int .i64 x.stamp,v1,.int .i64 x.h]
instance:Cel Task where
 w:=12
 ok:=fun x=>Cel.ok x.op∧Cel.ok x.pc∧Cel.ok x.s∧Cel.ok x.trace∧Cel.ok x.stamp∧Cel.ok x.hand∧Cel.ok x.h
 rep:=fun h x cs F=>∃ v0 v1 F0 F1,cs=x.cs v0 v1∧F=F0++(F1)∧ah h v0 x.s.attrs F0∧ah h v1 x.hand F1
 pos:=by decide
 len:=by rintro h x cs F ⟨v0,v1,F0,F1,rfl,rfl,r0,r1⟩;rfl
 lt:=by rintro h x cs F ⟨v0,v1,F0,F1,rfl,rfl,r0,r1⟩;intro b hb;rcases List.mem_append.1 hb with hb|hb;exact r0.lt b hb;exact r1.lt b hb
 keep:=by rintro h h' x cs F ⟨v0,v1,F0,F1,rfl,rfl,r0,r1⟩ k;exact⟨_,_,_,_,rfl,rfl,r0.keep fun b hb=>k b (List.mem_append_left _ hb),r1.keep fun b hb=>k b (List.mem_append_right _ (hb))⟩
structure aW where
 op:Int
 task:Int
 s:Span
 trace:Int
 stamp:Int
 code:Int
 keep:Bool
 void:Bool
 took:Int
 n:Int
 forgot:Int
 now:Int
 inv:Int
 lin:Int
 res:Int
def aW.cs (x:aW) (v0:AV):List AV:=[.int .i64 x.op,.int .i64 x.task,.int .i64 x.s.trace,.int .i64 x.s.id,.int .i64 x.s.start,.int .i64 x.s.fin,.bool x.s.err,v0,.int .i64 x.trace,.int .i64 x.stamp,.int .i64 x.code,.bool x.keep,.bool x.void,.int .i64 x.took,.int .i64 x.n,.int .i64 x.forgot,.int .i64 x.now,.int .i64 x.inv,.int .i64 x.lin,.int .i64 x.res]
instance:Cel aW where
 w:=20
 ok:=fun x=>True∧True∧Cel.ok x.s∧True∧True∧True∧True∧True∧True∧True∧True∧True∧True
 rep:=fun h x cs F=>∃ v,cs=x.cs v∧ah h v x.s.attrs F
 pos:=by decide
 len:=by rintro h x cs F ⟨v,rfl,_⟩;rfl
 lt:=by rintro h x cs F ⟨v,rfl,r⟩;exact r.lt
 keep:=by rintro h h' x cs F ⟨v,rfl,r⟩ k;exact⟨v,rfl,r.keep k⟩
structure Wld where
 c:iQ
 time:Int
 shut:Bool
 st:List aR
 bg:Int
 b:Bucket
 cache:List bO
 used:Int
 w:bn
 due:List Timer
 queue:List Itm
 out:List Itm
 tasks:List Task
 aF:List aW
 next:Int
def Wld.cs (x:Wld) (v0 v1 v2 v3 v4 v5 v6 v7 v8 v9 v10:AV):List AV:=[.int .i64 x.c.dK,.int .i64 x.c.wait,.int .i64 x.c.budget,.int .i64 x.c.cache,.int .i64 x.c.queue,.int .i64 x.c.rate,.int .i64 x.c.aZ,.int .i64 x.c.rule.kind,.int .i64 x.c.rule.n,.str x.c.rule.key,.str x.c.rule.text,v0,.int .i64 x.time,.bool x.shut,v1,.int .i64 x.bg,.int .i64 x.b.rate,.int .i64 x.b.aZ,.int .i64 x.b.tokens,.int .i64 x.b.at_,v2,.int .i64 x.used,.int .i64 x.w.now,v3,v4,v5,v6,v7,v8,v9,v10,.int .i64 x.next]
instance:Cel Wld where
 w:=32
 ok:=fun x=>Cel.ok x.c∧True∧Cel.ok x.st∧True∧Cel.ok x.b∧Cel.ok x.cache∧True∧Cel.ok x.w∧Cel.ok x.due∧Cel.ok x.queue∧Cel.ok x.out∧Cel.ok x.tasks∧Cel.ok x.aF∧Cel.ok x.next
 rep:=fun h x cs F=>∃ v0 v1 v2 v3 v4 v5 v6 v7 v8 v9 v10 F0 F1 F2 F3 F4 F5 F6 F7 F8 F9 F10,cs=x.cs v0 v1 v2 v3 v4 v5 v6 v7 v8 v9 v10∧F=F0++(F1++(F2++(F3++(F4++(F5++(F6++(F7++(F8++(F9++(F10))))))))))∧ah h v0 x.c.rule.l F0∧ah h v1 x.st F1∧ah h v2 x.cache F2∧ah h v3 x.w.near F3∧ah h v4 x.w.far F4∧ah h v5 x.w.rest F5∧ah h v6 x.due F6∧ah h v7 x.queue F7∧ah h v8 x.out F8∧ah h v9 x.tasks F9∧ah h v10 x.aF F10
 pos:=by decide
 len:=by rintro h x cs F ⟨v0,v1,v2,v3,v4,v5,v6,v7,v8,v9,v10,F0,F1,F2,F3,F4,F5,F6,F7,F8,F9,F10,rfl,rfl,r0,r1,r2,r3,r4,r5,r6,r7,r8,r9,r10⟩;rfl
 lt:=by rintro h x cs F ⟨v0,v1,v2,v3,v4,v5,v6,v7,v8,v9,v10,F0,F1,F2,F3,F4,F5,F6,F7,F8,F9,F10,rfl,rfl,r0,r1,r2,r3,r4,r5,r6,r7,r8,r9,r10⟩;intro b hb;rcases List.mem_append.1 hb with hb|hb;exact r0.lt b hb;rcases List.mem_append.1 hb with hb|hb;exact r1.lt b hb;rcases List.mem_append.1 hb with hb|hb;exact r2.lt b hb;rcases List.mem_append.1 hb with hb|hb;exact r3.lt b hb;rcases List.mem_append.1 hb with hb|hb;exact r4.lt b hb;rcases List.mem_append.1 hb with hb|hb;exact r5.lt b hb;rcases List.mem_append.1 hb with hb|hb;exact r6.lt b hb;rcases List.mem_append.1 hb with hb|hb;exact r7.lt b hb;rcases List.mem_append.1 hb with hb|hb;exact r8.lt b hb;rcases List.mem_append.1 hb with hb|hb;exact r9.lt b hb;exact r10.lt b hb
 keep:=by rintro h h' x cs F ⟨v0,v1,v2,v3,v4,v5,v6,v7,v8,v9,v10,F0,F1,F2,F3,F4,F5,F6,F7,F8,F9,F10,rfl,rfl,r0,r1,r2,r3,r4,r5,r6,r7,r8,r9,r10⟩ k;exact⟨_,_,_,_,_,_,_,_,_,_,_,_,_,_,_,_,_,_,_,_,_,_,rfl,rfl,r0.keep fun b hb=>k b (List.mem_append_left _ hb),r1.keep fun b hb=>k b (List.mem_append_right _ (List.mem_append_left _ hb)),r2.keep fun b hb=>k b (List.mem_append_right _ (List.mem_append_right _ (List.mem_append_left _ hb))),r3.keep fun b hb=>k b (List.mem_append_right _ (List.mem_append_right _ (List.mem_append_right _ (List.mem_append_left _ hb)))),r4.keep fun b hb=>k b (List.mem_append_right _ (List.mem_append_right _ (List.mem_append_right _ (List.mem_append_right _ (List.mem_append_left _ hb))))),r5.keep fun b hb=>k b (List.mem_append_right _ (List.mem_append_right _ (List.mem_append_right _ (List.mem_append_right _ (List.mem_append_right _ (List.mem_append_left _ hb)))))),r6.keep fun b hb=>k b (List.mem_append_right _ (List.mem_append_right _ (List.mem_append_right _ (List.mem_append_right _ (List.mem_append_right _ (List.mem_append_right _ (List.mem_append_left _ hb))))))),r7.keep fun b hb=>k b (List.mem_append_right _ (List.mem_append_right _ (List.mem_append_right _ (List.mem_append_right _ (List.mem_append_right _ (List.mem_append_right _ (List.mem_append_right _ (List.mem_append_left _ hb)))))))),r8.keep fun b hb=>k b (List.mem_append_right _ (List.mem_append_right _ (List.mem_append_right _ (List.mem_append_right _ (List.mem_append_right _ (List.mem_append_right _ (List.mem_append_right _ (List.mem_append_right _ (List.mem_append_left _ hb))))))))),r9.keep fun b hb=>k b (List.mem_append_right _ (List.mem_append_right _ (List.mem_append_right _ (List.mem_append_right _ (List.mem_append_right _ (List.mem_append_right _ (List.mem_append_right _ (List.mem_append_right _ (List.mem_append_right _ (List.mem_append_left _ hb)))))))))),r10.keep fun b hb=>k b (List.mem_append_right _ (List.mem_append_right _ (List.mem_append_right _ (List.mem_append_right _ (List.mem_append_right _ (List.mem_append_right _ (List.mem_append_right _ (List.mem_append_right _ (List.mem_append_right _ (List.mem_append_right _ (hb)))))))))))⟩
end Go.Ab
end
section
namespace Go.Ab
open Go.RowKit
def Yu:Nat→Nat→List UInt8
 |0,_=>[]
 |fuel+1,k=>if k=0 then[] else Yu fuel (k / 10)++[UInt8.ofNat (48+k % 10)]
def C8 (k:Int):ByteArray:=if k≤0 then⟨#[109,48]⟩ else⟨(109::Yu k.toNat k.toNat).toArray⟩
inductive FV:Type 1 where
 |i (n:Int)
 |b (x:Bool)
 |s (x:ByteArray)
 |l {β:Type} (c:Cel β) (m:Mk β) (xs:List β)
def DU (h:AH):List FV→List AV→List Nat→Prop
 |[],cs,F=>cs=[]∧F=[]
 | .i n::fs,cs,F=>∃ d,cs= .int .i64 n::d∧DU h fs d F
 | .b n::fs,cs,F=>∃ d,cs= .bool n::d∧DU h fs d F
 | .s n::fs,cs,F=>∃ d,cs= .str n::d∧DU h fs d F
 | .l c _ xs::fs,cs,F=>∃ v d F1 F2,cs=v::d∧F=F1++F2∧ah h v xs F1∧DU h fs d F2
def j4:Int→List FV→List FV × Int
 |m,[]=>([],m)
 |m,.i _::fs=>(.i m::(j4 (m+1) fs).1,(j4 (m+1) fs).2)
 |m,.b _::fs=>(.b (decide (m.tmod 3=0))::(j4 (m+1) fs).1,(j4 (m+1) fs).2)
 |m,.s _::fs=>(.s (C8 m)::(j4 (m+1) fs).1,(j4 (m+1) fs).2)
 |m,.l c k xs::fs=>(.l c k (mks m xs).1::(j4 (mks m xs).2 fs).1,(j4 (mks m xs).2 fs).2)
def UpF:List FV→Prop
 |[]=>True
 | .l _ k xs::fs=>(∀ m,m≤(mks m xs).2)∧UpF fs
 |_::fs=>UpF fs
class Fld (α:Type) [Cel α] [Mk α] where
 f:α→List FV
 rep:∀ (h:AH) (x:α) (cs:List AV) (F:List Nat),Cel.rep h x cs F↔DU h (f x) cs F
 put:∀ (m:Int) (x:α),f (Mk.put m x).1=(j4 m (f x)).1∧(Mk.put m x).2=(j4 m (f x)).2
 ups:∀ x,UpF (f x)
class al2 (α:Type) [Mk α] where
 up:∀ (m:Int) (x:α),m≤(Mk.put m x).2
theorem Ce:∀ (fs:List FV) (m:Int),UpF fs→m≤(j4 m fs).2
 |[],m,_=>by simp[j4]
 | .i _::fs,m,u=>by have:=Ce fs (m+1) u;simp only[j4];omega
 | .b _::fs,m,u=>by have:=Ce fs (m+1) u;simp only[j4];omega
 | .s _::fs,m,u=>by have:=Ce fs (m+1) u;simp only[j4];omega
 | .l c k xs::fs,m,u=>by have:=u.1 m;have:=Ce fs (mks m xs).2 u.2;simp only[j4];omega
inductive MKd where
 |i
 |b
 |s (f:FuncId)
 |l (f:FuncId)
section
variable{P:Program} {h h':AH} {Q:Nat→List AV→AH→Prop}
theorem Kp.mono {X Y:List Nat} (k:Kp h h' X) (hs:∀ b∈X,b∈Y):Kp h h' Y:=⟨k.1,fun b hb hn=>k.2 b hb fun hx=>hn (hs b hx)⟩
end
section
variable{α:Type} [Cel α] [Mk α] [Fld α]
theorem ajk (m:Int) (x:α):m≤(Mk.put m x).2:=by rw[(Fld.put m x).2];exact Ce _ _ (Fld.ups x)
theorem sO:∀ (xs:List α) (m:Int),m≤(mks m xs).2
 |[],m=>by simp[mks]
 |x::xs,m=>by
  have:=ajk m x
  have:=sO xs (Mk.put m x).2
  simp only[mks];omega
end
section
variable{α:Type} [Cel α] {P:Program} {h:AH}
theorem bR.split:∀ {xs:List α} {cs:List AV} {F:List Nat} (_:bR h xs cs F) {i:Nat} {x:α},xs[i]? =some x→∃ c1 ci c2 G1 Fi G2,cs=c1++(ci++c2)∧F=G1++(Fi++G2)∧bR h (xs.take i) c1 G1∧Cel.rep h x ci Fi∧bR h (xs.drop (i+1)) c2 G2
 |[],cs,F,r,i,x,hx=>by simp at hx
 |y::xs,cs,F,r,0,x,hx=>by
  simp at hx;subst hx
  obtain⟨c1,c2,F1,F2,rfl,rfl,r1,r2⟩:=r
  exact⟨[],c1,c2,[],F1,F2,rfl,rfl,⟨rfl,rfl⟩,r1,r2⟩
 |y::xs,cs,F,r,i+1,x,hx=>by
  simp at hx
  obtain⟨c1,c2,F1,F2,rfl,rfl,r1,r2⟩:=r
  obtain⟨d1,di,d2,G1,Fi,G2,rfl,rfl,q1,q2,q3⟩:=r2.split hx
  exact⟨c1++d1,di,d2,F1++G1,Fi,G2,by simp,by simp,⟨c1,d1,F1,G1,rfl,rfl,r1,q1⟩,q2,q3⟩
end
section
variable{α:Type} [Cel α] [Mk α] [Fld α] {P:Program} {h:AH}
end
end Go.Ab
end
section
namespace Go.Ab
open Go.RowKit
class Cnt (α:Type) [Mk α] [Sz α]:Prop where
 cnt:∀ (m:Int) (x:α),(Mk.put m x).2≤m+32 * (1+((Sz.sz x:Nat):Int))
theorem sw {α:Type} [Mk α] [Sz α] [Cnt α]:∀ (xs:List α) (m:Int),(mks m xs).2≤m+32 * ((xs.length+szs xs:Nat):Int)
 |[],m=>by simp[mks,szs]
 |x::xs,m=>by
  have:=Cnt.cnt m x
  have:=sw xs (Mk.put m x).2
  simp only[mks,szs,List.length_cons];omega
instance:Sz Int:=⟨fun _=>0⟩
instance:Mk Int:=⟨fun m _=>(m,m+1)⟩
instance:Flat Int where
 toCel:=inferInstance
 enc:=fun x=>[.int .i64 x]
 gD:=Iff.rfl
instance:Fld Int where
 f:=fun x=>[.i x]
 rep:=by
  intro h x cs F
  constructor
  ·rintro⟨rfl,rfl⟩;exact⟨_,rfl,rfl,rfl⟩
  ·rintro⟨_,rfl,rfl,rfl⟩;exact⟨rfl,rfl⟩
 put:=fun m x=>⟨rfl,rfl⟩
 ups:=fun x=>trivial
instance:Cnt Int:=⟨fun m x=>by show m+1≤_;simp only[Sz.sz];omega⟩
instance:Flat bO where
 toCel:=inferInstance
 enc:=bO.cs
 gD:=Iff.rfl
instance{α:Type} [Sz α]:Sz (List α):=⟨fun xs=>xs.length+szs xs⟩
instance{α:Type} [Mk α]:Mk (List α):=⟨fun m xs=>mks m xs⟩
instance{α:Type} [Cel α] [Mk α] [Fld α]:Fld (List α) where
 f:=fun x=>[.l inferInstance inferInstance x]
 rep:=by
  intro h x cs F
  constructor
  ·rintro⟨v,rfl,r⟩;exact⟨v,_,F,[],rfl,by simp,r,rfl,rfl⟩
  ·rintro⟨v,_,F1,F2,rfl,rfl,r,rfl,rfl⟩;exact⟨v,rfl,by simpa using r⟩
 put:=fun m x=>⟨rfl,rfl⟩
 ups:=fun x=>⟨fun m=>sO _ m,trivial⟩
instance{α:Type} [Mk α] [Sz α] [Cnt α]:Cnt (List α):=⟨fun m x=>by
 have:=sw x m
 show(mks m x).2≤m+32 * (1+((x.length+szs x:Nat):Int))
 omega⟩
mutual
def Pol.szP:Pol→Nat
 | .mk _ _ s t l=>s.size+t.size+(l.length+Pol.xS l)
def Pol.xS:List Pol→Nat
 |[]=>0
 |p::ps=>Pol.szP p+Pol.xS ps
end
instance:Sz Pol:=⟨Pol.szP⟩
theorem Pol.WL:∀ (l:List Pol),szs l=Pol.xS l
 |[]=>rfl
 |p::ps=>by simp only[szs,Pol.xS,Pol.WL ps];rfl
theorem Pol.Ip (x:Pol):Sz.sz x=x.key.size+x.text.size+(x.l.length+szs x.l):=by
 cases x with
 |mk k n s t l=>rw[Pol.WL];rfl
mutual
def Pol.qZ:Int→Pol→Pol × Int
 |m,.mk _ _ _ _ l=>(.mk m (m+1) (C8 (m+1+1)) (C8 (m+1+1+1)) (Pol.nP (m+1+1+1+1) l).1,(Pol.nP (m+1+1+1+1) l).2)
def Pol.nP:Int→List Pol→List Pol × Int
 |m,[]=>([],m)
 |m,p::ps=>((Pol.qZ m p).1::(Pol.nP (Pol.qZ m p).2 ps).1,(Pol.nP (Pol.qZ m p).2 ps).2)
end
instance:Mk Pol:=⟨Pol.qZ⟩
theorem Pol.MC:∀ (l:List Pol) (m:Int),mks m l=Pol.nP m l
 |[],m=>rfl
 |p::ps,m=>by simp only[mks,Pol.nP,Pol.MC ps];rfl
mutual
theorem Pol.up_:∀ (x:Pol) (m:Int),m≤(Pol.qZ m x).2
 | .mk k n s t l,m=>by have:=Pol.Nf l (m+1+1+1+1);simp only[Pol.qZ];omega
theorem Pol.Nf:∀ (x:List Pol) (m:Int),m≤(Pol.nP m x).2
 |[],m=>by simp[Pol.nP]
 |p::ps,m=>by have:=Pol.up_ p m;have:=Pol.Nf ps (Pol.qZ m p).2;simp only[Pol.nP];omega
end
instance:Fld Pol where
 f:=fun x=>[.i x.kind,.i x.n,.s x.key,.s x.text,.l inferInstance inferInstance x.l]
 rep:=by
  intro h x cs F
  rw[Pol.gD]
  constructor
  ·rintro⟨v0,rfl,r0⟩;exact⟨_,rfl,_,rfl,_,rfl,_,rfl,v0,_,F,[],rfl,by simp,r0,rfl,rfl⟩
  ·rintro⟨_,rfl,_,rfl,_,rfl,_,rfl,v0,_,F0,_,rfl,rfl,r0,rfl,rfl⟩;exact⟨v0,rfl,by simpa using r0⟩
 put:=fun m x=>by
  cases x with
  |mk k n s t l=>simp only[j4,Pol.l,Pol.MC];exact⟨rfl,rfl⟩
 ups:=fun x=>⟨fun m=>by rw[Pol.MC];exact Pol.Nf _ _,trivial⟩
mutual
theorem Pol.YP:∀ (x:Pol) (m:Int),(Pol.qZ m x).2≤m+32 * (1+((Pol.szP x:Nat):Int))
 | .mk k n s t l,m=>by have:=Pol.XW l (m+1+1+1+1);simp only[Pol.qZ,Pol.szP];omega
theorem Pol.XW:∀ (x:List Pol) (m:Int),(Pol.nP m x).2≤m+32 * ((x.length+Pol.xS x:Nat):Int)
 |[],m=>by simp[Pol.nP,Pol.xS]
 |p::ps,m=>by have:=Pol.YP p m;have:=Pol.XW ps (Pol.qZ m p).2;simp only[Pol.nP,Pol.xS,List.length_cons];omega
end
instance:Cnt Pol:=⟨fun m x=>Pol.YP x m⟩
instance:Sz bO:=⟨fun x=>0⟩
instance:Mk bO:=⟨fun m x=>(⟨m,m+1,decide ((m+1+1).tmod 3=0)⟩,m+1+1+1)⟩
instance:Fld bO where
 f:=fun x=>[.i x.trace,.i x.stamp,.b x.keep]
 rep:=by
  intro h x cs F
  constructor
  ·rintro⟨rfl,rfl⟩;exact⟨_,rfl,⟨_,rfl,⟨_,rfl,⟨rfl,rfl⟩⟩⟩⟩
  ·rintro⟨_,rfl,⟨_,rfl,⟨_,rfl,⟨rfl,rfl⟩⟩⟩⟩;exact⟨rfl,rfl⟩
 put:=fun m x=>⟨rfl,rfl⟩
 ups:=fun x=>trivial
instance:Cnt bO:=⟨fun m x=>by
 show m+1+1+1≤m+32 * (1+((0:Nat):Int))
 omega⟩
instance:Sz Attr:=⟨fun x=>x.key.size+x.text.size⟩
instance:Mk Attr:=⟨fun m x=>(⟨C8 (m),decide ((m+1).tmod 3=0),m+1+1,C8 (m+1+1+1)⟩,m+1+1+1+1)⟩
instance:Fld Attr where
 f:=fun x=>[.s x.key,.b x.num,.i x.n,.s x.text]
 rep:=by
  intro h x cs F
  constructor
  ·rintro⟨rfl,rfl⟩;exact⟨_,rfl,⟨_,rfl,⟨_,rfl,⟨_,rfl,⟨rfl,rfl⟩⟩⟩⟩⟩
  ·rintro⟨_,rfl,⟨_,rfl,⟨_,rfl,⟨_,rfl,⟨rfl,rfl⟩⟩⟩⟩⟩;exact⟨rfl,rfl⟩
 put:=fun m x=>⟨rfl,rfl⟩
 ups:=fun x=>trivial
instance:Cnt Attr:=⟨fun m x=>by
 show m+1+1+1+1≤m+32 * (1+((x.key.size+x.text.size:Nat):Int))
 omega⟩
instance:Sz Span:=⟨fun x=>(x.attrs.length+szs x.attrs)⟩
instance:Mk Span:=⟨fun m x=>(⟨m,m+1,m+1+1,m+1+1+1,decide ((m+1+1+1+1).tmod 3=0),(mks (m+1+1+1+1+1) x.attrs).1⟩,(mks (m+1+1+1+1+1) x.attrs).2)⟩
instance:Fld Span where
 f:=fun x=>[.i x.trace,.i x.id,.i x.start,.i x.fin,.b x.err,.l inferInstance inferInstance x.attrs]
 rep:=by
  intro h x cs F
  constructor
  ·rintro⟨v0,rfl,r0⟩;exact⟨_,rfl,⟨_,rfl,⟨_,rfl,⟨_,rfl,⟨_,rfl,⟨v0,_,F,[],rfl,by simp,r0,⟨rfl,rfl⟩⟩⟩⟩⟩⟩⟩
  ·rintro⟨_,rfl,⟨_,rfl,⟨_,rfl,⟨_,rfl,⟨_,rfl,⟨v0,_,F0,_,rfl,rfl,r0,⟨rfl,rfl⟩⟩⟩⟩⟩⟩⟩;exact⟨v0,rfl,by simpa using r0⟩
 put:=fun m x=>⟨rfl,rfl⟩
 ups:=fun x=>⟨fun m=>sO _ m,trivial⟩
instance:Cnt Span:=⟨fun m x=>by
 show(mks (m+1+1+1+1+1) x.attrs).2≤m+32 * (1+(((x.attrs.length+szs x.attrs):Nat):Int))
 have:=sw x.attrs (m+1+1+1+1+1)
 omega⟩
instance:Sz Timer:=⟨fun x=>0⟩
instance:Mk Timer:=⟨fun m x=>(⟨m,m+1,m+1+1⟩,m+1+1+1)⟩
instance:Fld Timer where
 f:=fun x=>[.i x.id,.i x.trace,.i x.at_]
 rep:=by
  intro h x cs F
  constructor
  ·rintro⟨rfl,rfl⟩;exact⟨_,rfl,⟨_,rfl,⟨_,rfl,⟨rfl,rfl⟩⟩⟩⟩
  ·rintro⟨_,rfl,⟨_,rfl,⟨_,rfl,⟨rfl,rfl⟩⟩⟩⟩;exact⟨rfl,rfl⟩
 put:=fun m x=>⟨rfl,rfl⟩
 ups:=fun x=>trivial
instance:Cnt Timer:=⟨fun m x=>by
 show m+1+1+1≤m+32 * (1+((0:Nat):Int))
 omega⟩
instance:Sz Trail:=⟨fun x=>(x.spans.length+szs x.spans)⟩
instance:Mk Trail:=⟨fun m x=>(⟨m,m+1,m+1+1,(mks (m+1+1+1) x.spans).1⟩,(mks (m+1+1+1) x.spans).2)⟩
instance:Fld Trail where
 f:=fun x=>[.i x.id,.i x.stamp,.i x.first,.l inferInstance inferInstance x.spans]
 rep:=by
  intro h x cs F
  constructor
  ·rintro⟨v0,rfl,r0⟩;exact⟨_,rfl,⟨_,rfl,⟨_,rfl,⟨v0,_,F,[],rfl,by simp,r0,⟨rfl,rfl⟩⟩⟩⟩⟩
  ·rintro⟨_,rfl,⟨_,rfl,⟨_,rfl,⟨v0,_,F0,_,rfl,rfl,r0,⟨rfl,rfl⟩⟩⟩⟩⟩;exact⟨v0,rfl,by simpa using r0⟩
 put:=fun m x=>⟨rfl,rfl⟩
 ups:=fun x=>⟨fun m=>sO _ m,trivial⟩
instance:Cnt Trail:=⟨fun m x=>by
 show(mks (m+1+1+1) x.spans).2≤m+32 * (1+(((x.spans.length+szs x.spans):Nat):Int))
 have:=sw x.spans (m+1+1+1)
 omega⟩
instance:Sz aR:=⟨fun x=>(x.l.length+szs x.l)⟩
instance:Mk aR:=⟨fun m x=>(⟨m,(mks (m+1) x.l).1⟩,(mks (m+1) x.l).2)⟩
instance:Fld aR where
 f:=fun x=>[.i x.held,.l inferInstance inferInstance x.l]
 rep:=by
  intro h x cs F
  constructor
  ·rintro⟨v0,rfl,r0⟩;exact⟨_,rfl,⟨v0,_,F,[],rfl,by simp,r0,⟨rfl,rfl⟩⟩⟩
  ·rintro⟨_,rfl,⟨v0,_,F0,_,rfl,rfl,r0,⟨rfl,rfl⟩⟩⟩;exact⟨v0,rfl,by simpa using r0⟩
 put:=fun m x=>⟨rfl,rfl⟩
 ups:=fun x=>⟨fun m=>sO _ m,trivial⟩
instance:Cnt aR:=⟨fun m x=>by
 show(mks (m+1) x.l).2≤m+32 * (1+(((x.l.length+szs x.l):Nat):Int))
 have:=sw x.l (m+1)
 omega⟩
instance:Sz Itm:=⟨fun x=>Sz.sz x.s⟩
instance:Mk Itm:=⟨fun m x=>(⟨m,⟨m+1,m+1+1,m+1+1+1,m+1+1+1+1,decide ((m+1+1+1+1+1).tmod 3=0),(mks (m+1+1+1+1+1+1) x.s.attrs).1⟩⟩,(mks (m+1+1+1+1+1+1) x.s.attrs).2)⟩
instance:Fld Itm where
 f:=fun x=>[.i x.stamp,.i x.s.trace,.i x.s.id,.i x.s.start,.i x.s.fin,.b x.s.err,.l inferInstance inferInstance x.s.attrs]
 rep:=by
  intro h x cs F
  constructor
  ·rintro⟨v0,rfl,r0⟩;exact⟨_,rfl,⟨_,rfl,⟨_,rfl,⟨_,rfl,⟨_,rfl,⟨_,rfl,⟨v0,_,F,[],rfl,by simp,r0,⟨rfl,rfl⟩⟩⟩⟩⟩⟩⟩⟩
  ·rintro⟨_,rfl,⟨_,rfl,⟨_,rfl,⟨_,rfl,⟨_,rfl,⟨_,rfl,⟨v0,_,F0,_,rfl,rfl,r0,⟨rfl,rfl⟩⟩⟩⟩⟩⟩⟩⟩;exact⟨v0,rfl,by simpa using r0⟩
 put:=fun m x=>⟨rfl,rfl⟩
 ups:=fun x=>⟨fun m=>sO _ m,trivial⟩
instance:Cnt Itm:=⟨fun m x=>by
 show(mks (m+1+1+1+1+1+1) x.s.attrs).2≤m+32 * (1+((Sz.sz x.s:Nat):Int))
 have:=sw x.s.attrs (m+1+1+1+1+1+1)
 have e_s:Sz.sz x.s=(x.s.attrs.length+szs x.s.attrs):=rfl
 omega⟩
instance:Sz Task:=⟨fun x=>Sz.sz x.s+(x.hand.length+szs x.hand)⟩
instance:Mk Task:=⟨fun m x=>(⟨m,m+1,⟨m+1+1,m+1+1+1,m+1+1+1+1,m+1+1+1+1+1,decide ((m+1+1+1+1+1+1).tmod 3=0),(mks (m+1+1+1+1+1+1+1) x.s.attrs).1⟩,(mks (m+1+1+1+1+1+1+1) x.s.attrs).2,(mks (m+1+1+1+1+1+1+1) x.s.attrs).2+1,(mks ((mks (m+1+1+1+1+1+1+1) x.s.attrs).2+1+1) x.hand).1,(mks ((mks (m+1+1+1+1+1+1+1) x.s.attrs).2+1+1) x.hand).2⟩,(mks ((mks (m+1+1+1+1+1+1+1) x.s.attrs).2+1+1) x.hand).2+1)⟩
instance:Fld Task where
 f:=fun x=>[.i x.op,.i x.pc,.i x.s.trace,.i x.s.id,.i x.s.start,.i x.s.fin,.b x.s.err,.l inferInstance inferInstance x.s.attrs,.i x.trace,.i x.stamp,.l inferInstance inferInstance x.hand,.i x.h]
 rep:=by
  intro h x cs F
  constructor
  ·rintro⟨v0,v1,F0,F1,rfl,rfl,r0,r1⟩;exact⟨_,rfl,⟨_,rfl,⟨_,rfl,⟨_,rfl,⟨_,rfl,⟨_,rfl,⟨_,rfl,⟨v0,_,F0,F1++[],rfl,by simp,r0,⟨_,rfl,⟨_,rfl,⟨v1,_,F1,[],rfl,by simp,r1,⟨_,rfl,⟨rfl,rfl⟩⟩⟩⟩⟩⟩⟩⟩⟩⟩⟩⟩⟩
  ·rintro⟨_,rfl,⟨_,rfl,⟨_,rfl,⟨_,rfl,⟨_,rfl,⟨_,rfl,⟨_,rfl,⟨v0,_,F0,_,rfl,rfl,r0,⟨_,rfl,⟨_,rfl,⟨v1,_,F1,_,rfl,rfl,r1,⟨_,rfl,⟨rfl,rfl⟩⟩⟩⟩⟩⟩⟩⟩⟩⟩⟩⟩⟩;exact⟨v0,v1,F0,F1,rfl,by simp,r0,r1⟩
 put:=fun m x=>⟨rfl,rfl⟩
 ups:=fun x=>⟨fun m=>sO _ m,⟨fun m=>sO _ m,trivial⟩⟩
instance:Cnt Task:=⟨fun m x=>by
 show(mks ((mks (m+1+1+1+1+1+1+1) x.s.attrs).2+1+1) x.hand).2+1≤m+32 * (1+((Sz.sz x.s+(x.hand.length+szs x.hand):Nat):Int))
 have:=sw x.s.attrs (m+1+1+1+1+1+1+1)
 have:=sw x.hand ((mks (m+1+1+1+1+1+1+1) x.s.attrs).2+1+1)
 have e_s:Sz.sz x.s=(x.s.attrs.length+szs x.s.attrs):=rfl
 omega⟩
instance:Sz aW:=⟨fun x=>Sz.sz x.s⟩
instance:Mk aW:=⟨fun m x=>(⟨m,m+1,⟨m+1+1,m+1+1+1,m+1+1+1+1,m+1+1+1+1+1,decide ((m+1+1+1+1+1+1).tmod 3=0),(mks (m+1+1+1+1+1+1+1) x.s.attrs).1⟩,(mks (m+1+1+1+1+1+1+1) x.s.attrs).2,(mks (m+1+1+1+1+1+1+1) x.s.attrs).2+1,(mks (m+1+1+1+1+1+1+1) x.s.attrs).2+1+1,decide (((mks (m+1+1+1+1+1+1+1) x.s.attrs).2+1+1+1).tmod 3=0),decide (((mks (m+1+1+1+1+1+1+1) x.s.attrs).2+1+1+1+1).tmod 3=0),(mks (m+1+1+1+1+1+1+1) x.s.attrs).2+1+1+1+1+1,(mks (m+1+1+1+1+1+1+1) x.s.attrs).2+1+1+1+1+1+1,(mks (m+1+1+1+1+1+1+1) x.s.attrs).2+1+1+1+1+1+1+1,(mks (m+1+1+1+1+1+1+1) x.s.attrs).2+1+1+1+1+1+1+1+1,(mks (m+1+1+1+1+1+1+1) x.s.attrs).2+1+1+1+1+1+1+1+1+1,(mks (m+1+1+1+1+1+1+1) x.s.attrs).2+1+1+1+1+1+1+1+1+1+1,(mks (m+1+1+1+1+1+1+1) x.s.attrs).2+1+1+1+1+1+1+1+1+1+1+1⟩,(mks (m+1+1+1+1+1+1+1) x.s.attrs).2+1+1+1+1+1+1+1+1+1+1+1+1)⟩
instance:Fld aW where
 f:=fun x=>[.i x.op,.i x.task,.i x.s.trace,.i x.s.id,.i x.s.start,.i x.s.fin,.b x.s.err,.l inferInstance inferInstance x.s.attrs,.i x.trace,.i x.stamp,.i x.code,.b x.keep,.b x.void,.i x.took,.i x.n,.i x.forgot,.i x.now,.i x.inv,.i x.lin,.i x.res]
 rep:=by
  intro h x cs F
  constructor
  ·rintro⟨v0,rfl,r0⟩;exact⟨_,rfl,⟨_,rfl,⟨_,rfl,⟨_,rfl,⟨_,rfl,⟨_,rfl,⟨_,rfl,⟨v0,_,F,[],rfl,by simp,r0,⟨_,rfl,⟨_,rfl,⟨_,rfl,⟨_,rfl,⟨_,rfl,⟨_,rfl,⟨_,rfl,⟨_,rfl,⟨_,rfl,⟨_,rfl,⟨_,rfl,⟨_,rfl,⟨rfl,rfl⟩⟩⟩⟩⟩⟩⟩⟩⟩⟩⟩⟩⟩⟩⟩⟩⟩⟩⟩⟩⟩
  ·rintro⟨_,rfl,⟨_,rfl,⟨_,rfl,⟨_,rfl,⟨_,rfl,⟨_,rfl,⟨_,rfl,⟨v0,_,F0,_,rfl,rfl,r0,⟨_,rfl,⟨_,rfl,⟨_,rfl,⟨_,rfl,⟨_,rfl,⟨_,rfl,⟨_,rfl,⟨_,rfl,⟨_,rfl,⟨_,rfl,⟨_,rfl,⟨_,rfl,⟨rfl,rfl⟩⟩⟩⟩⟩⟩⟩⟩⟩⟩⟩⟩⟩⟩⟩⟩⟩⟩⟩⟩⟩;exact⟨v0,rfl,by simpa using r0⟩
 put:=fun m x=>⟨rfl,rfl⟩
 ups:=fun x=>⟨fun m=>sO _ m,trivial⟩
instance:Cnt aW:=⟨fun m x=>by
 show(mks (m+1+1+1+1+1+1+1) x.s.attrs).2+1+1+1+1+1+1+1+1+1+1+1+1≤m+32 * (1+((Sz.sz x.s:Nat):Int))
 have:=sw x.s.attrs (m+1+1+1+1+1+1+1)
 have e_s:Sz.sz x.s=(x.s.attrs.length+szs x.s.attrs):=rfl
 omega⟩
instance:Sz Bucket:=⟨fun x=>0⟩
instance:Sz bn:=⟨fun x=>(x.near.length+szs x.near)+(x.far.length+szs x.far)+(x.rest.length+szs x.rest)⟩
instance:Sz iQ:=⟨fun x=>Sz.sz x.rule⟩
instance:Sz Wld:=⟨fun x=>Sz.sz x.c+(x.st.length+szs x.st)+(x.cache.length+szs x.cache)+Sz.sz x.w+(x.due.length+szs x.due)+(x.queue.length+szs x.queue)+(x.out.length+szs x.out)+(x.tasks.length+szs x.tasks)+(x.aF.length+szs x.aF)⟩
end Go.Ab
end
section
namespace Go.Ab
open Go.RowKit
section
variable{h h':AH}
theorem pv {a b:AV} (e:a=b) (x:Ext h h':=by exact aI):(1:Nat)=1∧[a]=[b]∧Ext h h':=⟨rfl,by rw[e],x⟩
theorem pb {a b:Bool} (e:a=b) (x:Ext h h':=by exact aI):(1:Nat)=1∧[AV.bool a]=[AV.bool b]∧Ext h h':=⟨rfl,by rw[e],x⟩
theorem pi {a b:Int} {q:IntKind} (e:a=b) (x:Ext h h':=by exact aI):(1:Nat)=1∧[AV.int q a]=[AV.int q b]∧Ext h h':=⟨rfl,by rw[e],x⟩
theorem pt {p:Prop} (e:p) (x:Ext h h':=by exact aI):(1:Nat)=1∧[AV.bool true]=[AV.bool (bp p)]∧Ext h h':=⟨rfl,by rw[fK e],x⟩
theorem pf {p:Prop} (e: ¬ p) (x:Ext h h':=by exact aI):(1:Nat)=1∧[AV.bool false]=[AV.bool (bp p)]∧Ext h h':=⟨rfl,by rw[gM e],x⟩
end
theorem M6 {p:Prop} {b:Bool} (h:b=true↔p):b=bp p:=by
 by_cases hp:p
 ·rw[fK hp];exact h.2 hp
 ·rw[gM hp];cases b
  ·rfl
  ·exact absurd (h.1 rfl) hp
theorem oU {p:Prop} (h:bp p=true):p:=MK.1 h
theorem wR {p:Prop} (h:bp p=false): ¬ p:=fun hp=>by rw[fK hp] at h;cases h
section
variable{α:Type} {xs:List α} {p:Nat→α→Prop} {i:Nat} {y:α}
def eZ (xs:List α) (p:Nat→α→Prop) (i:Nat):Prop:=∀ (j:Nat) (x:α),j < i→xs[j]? =some x→p j x
theorem up0:eZ xs p 0:=fun j x hj=>by omega
theorem upS (h:eZ xs p i) (hy:xs[i]? =some y) (hp:p i y):eZ xs p (i+1):=fun j x hj hx=>by
 by_cases e:j=i
 ·subst e;rw[hy] at hx;cases hx;exact hp
 ·exact h j x (by omega) hx
theorem jV {p:α→Prop} (h:eZ xs (fun _=>p) xs.length):∀ x∈xs,p x:=fun x hx=>by
 obtain⟨j,hj,e⟩:=List.getElem_of_mem hx
 exact h j x hj (by rw[List.getElem?_eq_getElem hj,e])
theorem tK (h:eZ xs p xs.length):∀ j x,xs[j]? =some x→p j x:=fun j x hx=>h j x (List.getElem?_eq_some_iff.1 hx).1 hx
theorem nN {p:α→Prop} (hy:xs[i]? =some y) (hp: ¬ p y): ¬ ∀ x∈xs,p x:=fun h=>hp (h y (List.mem_of_getElem? hy))
end
section
variable{α:Type} [Cel α] {P:Program} {h h0:AH} {Q:Nat→List AV→AH→Prop} {k:AV→Prog}
theorem ixg {v:AV} {xs:List α} {F:List Nat} {es i:Nat} {q:IntKind} (hk:∀ x,xs[i]? =some x→∀ b o cs Fi,At h0 b o cs→Cel.rep h0 x cs Fi→(∀ y∈Fi,y∈F)→(k (.ptr b o)).awp P h Q) (r:ah h0 v xs F:=by assumption) (hi:i < xs.length:=by omega) (hw:es=Cel.w α:=by rfl):(Prog.op (.idx es v (.int q i)) k).awp P h Q:=
 dw r (List.getElem?_eq_getElem hi) hw (hk _ (List.getElem?_eq_getElem hi))
theorem iP {v:AV} {xs:List α} {F:List Nat} {es:Nat} {i:Int} {q:IntKind} (hk:∀ x,xs[i.toNat]? =some x→∀ b o cs Fi,At h0 b o cs→Cel.rep h0 x cs Fi→(∀ y∈Fi,y∈F)→(k (.ptr b o)).awp P h Q) (r:ah h0 v xs F:=by assumption) (h1:0≤i:=by omega) (hi:i.toNat < xs.length:=by omega) (hw:es=Cel.w α:=by rfl):(Prog.op (.idx es v (.int q i)) k).awp P h Q:=
 Ct r h1 (List.getElem?_eq_getElem hi) hw (hk _ (List.getElem?_eq_getElem hi))
end
section
variable{P:Program} {h:AH} {Q:Nat→List AV→AH→Prop} {k:AV→Prog}
theorem akc {p:Prog} (x':p.awp P h Q):p.awp P h Q:=x'
theorem aG (f:FuncId) {l:List AV} (x':(Prog.op (.call f l) k).awp P h Q):(Prog.op (.call f l) k).awp P h Q:=x'
end
def bys (s:ByteArray):List UInt8:=s.data.toList
theorem Cn (s:ByteArray):(bys s).length=s.size:=by show s.data.toList.length=s.data.size;simp
theorem Wj (s:ByteArray) (i:Nat):s[i]? =(bys s)[i]? :=by
 unfold bys
 rw[Array.getElem?_toList]
 by_cases h:i < s.size
 ·rw[getElem?_pos s i h,Array.getElem?_eq_getElem (by simpa using h)];rfl
 ·rw[getElem?_neg s i h,Array.getElem?_eq_none (by simpa using h)]
section
variable{P:Program} {h:AH} {Q:Nat→List AV→AH→Prop} {k:AV→Prog}
theorem sx {s:ByteArray} {i:Nat} {q:IntKind} (hk:∀ c:UInt8,(bys s)[i]? =some c→(k (.int .u8 (c.toNat:Int))).awp P h Q) (hi:i < s.size:=by omega):(Prog.op (.jM (.str s) (.int q i)) k).awp P h Q:=by
 have hb:=Cn s
 simp only[Prog.awp,AOp.go]
 refine⟨Int.natCast_nonneg _,(bys s)[i]'(by omega),?_,hk _ (List.getElem?_eq_getElem (by omega))⟩
 rw[Int.toNat_natCast,Wj]
 exact List.getElem?_eq_getElem (by omega)
theorem sx1 {s:ByteArray} {i:Nat} {q:IntKind} {c:UInt8} (hc:(bys s)[i]? =some c) (hk:(k (.int .u8 (c.toNat:Int))).awp P h Q):(Prog.op (.jM (.str s) (.int q i)) k).awp P h Q:=by
 simp only[Prog.awp,AOp.go]
 refine⟨Int.natCast_nonneg _,c,?_,hk⟩
 rw[Int.toNat_natCast,Wj];exact hc
theorem Vr {c:UInt8} (hk:(k (.int .i64 (c.toNat:Int))).awp P h Q):(Prog.op (.conv .i64 (.int .u8 (c.toNat:Int))) k).awp P h Q:=by
 have hc:=c.toNat_lt
 refine Hu ?_
 rw[kJ (by omega) (by omega)];exact hk
theorem ai3 {a b:ByteArray} (hk:(k (.bool (!(Op.bytesLess a.toList b.toList)))).awp P h Q):(Prog.op (.bin 1 .geq (.str a) (.str b)) k).awp P h Q:=hk
theorem Vq {q:IntKind} {a:Int} (hk:(k (.bool false)).awp P h Q):(Prog.op (.bin 0 .neq (.int q a) (.int q a)) k).awp P h Q:=Ig (fun h=>absurd rfl h) fun _=>hk
theorem Vs {a:Bool} (hk:(k (.bool false)).awp P h Q):(Prog.op (.bin 2 .neq (.bool a) (.bool a)) k).awp P h Q:=Wq (by simpa using hk)
theorem ajJ {a b:Int} (hk:(k (.int .i64 (max a b))).awp P h Q):(Prog.op (.mnx false [.int .i64 a,.int .i64 b]) k).awp P h Q:=by
 simp only[Prog.awp,AOp.go,vW,qN]
 have:(if a < b then b else a)=max a b:=by split<;>omega
 rw[if_neg (by decide),this];exact hk
theorem ajI {a b:Int} (hk:(k (.int .i64 (min a b))).awp P h Q):(Prog.op (.mnx true [.int .i64 a,.int .i64 b]) k).awp P h Q:=by
 simp only[Prog.awp,AOp.go,vW,qN]
 have:(if b < a then b else a)=min a b:=by split<;>omega
 rw[if_pos trivial,this];exact hk
end
end Go.Ab
end
section
namespace Go.Ab
open Go.RowKit
theorem dh {α:Type} [Sz α]:∀ {xs:List α} {x:α},x∈xs→Sz.sz x≤szs xs
 |y::xs,x,h=>by
  rcases List.mem_cons.1 h with e|e
  ·subst e;simp[szs]
  ·have:=dh e;simp only[szs];omega
section
variable{h:AH} {n m:Nat} {F G:List Nat}
theorem fB (o:Own n h (F++G)):Own n h F:=⟨(List.nodup_append.1 o.1).1,fun b hb=>o.2 b (List.mem_append_left _ hb)⟩
theorem dI (o:Own n h (F++G)):Own n h G:=⟨(List.nodup_append.1 o.1).2.1,fun b hb=>o.2 b (List.mem_append_right _ hb)⟩
theorem vH (o:Own n h (F++G)):∀ c∈F,c ∉ G:=fun c h1 h2=>(List.nodup_append.1 o.1).2.2 c h1 c h2 rfl
theorem iK (o:Own n h F) (p:Own m h G) (hn:n≤m) (d:∀ c∈F,c ∉ G):Own n h (F++G):=
 ⟨List.nodup_append.2 ⟨o.1,p.1,fun a ha b hb e=>d a ha (e▸hb)⟩,fun b hb=>by
  rcases List.mem_append.1 hb with hb|hb
  ·exact o.2 b hb
  ·exact⟨Nat.le_trans hn (p.2 b hb).1,(p.2 b hb).2⟩⟩
end
theorem iI {h:AH} {n:Nat} {F G:List Nat} (r:bU n h F) (r':bU n h G) (d:∀ c∈F,c ∉ G):bU n h (F++G):=ajo r r' (Nat.le_refl _) d
theorem gN {n:Nat} {h:AH} {F:List Nat} (r:bU n h F:=by(repeat(first|exact XD (by assumption) (by assumption) aV|with_reducible apply gy|with_reducible apply dM|((with_reducible apply jk);assumption)|((with_reducible apply bX);assumption)|exact kY|exact ng))):bU n h F:=r
def vN {α:Type} [Cel α] (P:Program) (c:FuncId) (xs:List α):Prop:=∀ (v:AV) (F:List Nat) (h:AH),ah h v xs F→bq P c [v] h fun u h'=>Ext h h'∧∃ F',ah h' u xs F'∧Own h.n h' F'
end Go.Ab
end
section
namespace Go.Ab
open Go.RowKit
def Ay {α:Type} (xs ys:List α) (i:Nat):Prop:=∀ (j:Nat) (x y:α),j < i→xs[j]? =some x→ys[j]? =some y→x=y
section
variable{α:Type} {xs ys:List α} {i:Nat} {x y:α}
theorem eu0:Ay xs ys 0:=fun j x y hj=>by omega
theorem euS (h:Ay xs ys i) (hx:xs[i]? =some x) (hy:ys[i]? =some y) (e:x=y):Ay xs ys (i+1):=fun j u w hj hu hw=>by
 by_cases e':j=i
 ·subst e';rw[hx] at hu;rw[hy] at hw;cases hu;cases hw;exact e
 ·exact h j u w (by omega) hu hw
theorem XM (h:Ay xs ys xs.length) (hl:xs.length=ys.length):xs=ys:=by
 apply List.ext_getElem hl
 intro j h1 h2
 exact h j _ _ h1 (List.getElem?_eq_getElem h1) (List.getElem?_eq_getElem h2)
theorem XL (hx:xs[i]? =some x) (hy:ys[i]? =some y) (e: ¬ x=y): ¬ xs=ys:=fun k=>by
 subst k;rw[hx] at hy;cases hy;exact e rfl
end
def Yq (w:Nat) (zero:List AV) (x0 x1 x2:AV):Prog:=.op (.len 0 x0) fun v=>.op (.len 0 x1) fun v_1=>.op (.bin 0 .neq v v_1) fun v=>.ite v (.fin [.val (AV.bool false)]) (.op (.len 0 x0) fun v=>.loop [AV.int .i64 0] (fun vs=>.op (.bin 0 .lss (g vs 0) v) fun v=>.ite v (.op (.idx w x0 (g vs 0)) fun v=>.op (.ldn w v) fun v=>.op (.alloc zero) fun v_2=>.op (.st w v_2 v) fun v=>.op (.idx w x1 (g vs 0)) fun v=>.op (.ldn w v) fun v=>.op (.alloc zero) fun v_3=>.op (.st w v_3 v) fun v=>.op (.ldn w v_2) fun v=>.op (.ldn w v_3) fun v_4=>.op (.gW x2 [v,v_4]) fun v=>.op (.una .not v) fun v=>.ite v (.fin [.val (AV.bool false)]) (.op (.bin 0 .add (g vs 0) (AV.int .i64 1)) fun v=>.leaf 0 [v])) (.leaf 2 [g vs 0])) fun t vs=>aC t 1 (.leaf 1 vs) (aC t 2 (.fin [.val (AV.bool true)]) .bad))
theorem yV {zero cs:List AV} (h:zero.length=cs.length):splice zero 0 cs=cs:=by
 unfold splice;rw[List.drop_of_length_le (by omega)];simp
section
variable{α:Type} [Cel α] {P:Program} {h:AH}
theorem ahv {w:Nat} {zero:List AV} (hw:w=Cel.w α) (hz:zero.length=w) {xs ys:List α} {v0 v1:AV} {F G:List Nat} {f:FuncId} {caps:List AV} (r:ah h v0 xs F) (r':ah h v1 ys G)
  (hf:∀ x∈xs,∀ y,∀ (cs cs':List AV) (F F':List Nat) (h':AH),Ext h h'→Cel.rep h' x cs F→Cel.rep h' y cs' F'→aP P f ([.agg cs,.agg cs']++caps) h' (.bool (bp (x=y)))):
  (Yq w zero v0 v1 (.fn f caps)).awp P h (Post (.bool (bp (xs=ys))) h):=by
 subst hw
 have hpos:=Cel.pos (α:=α)
 have hsm:=r.small
 unfold Yq
 refine eG r (eG r' (Ig (fun hne=>?_) (fun heq=>?_)))
 ·exact dL (jB (pf (by intro k;subst k;exact hne rfl)))
 ·refine dO (eG r ?_)
  refine aX xs.length (fun i vs h1=>vs=[.int .i64 (i:Int)]∧i≤xs.length∧Ext h h1∧Ay xs ys i) ⟨rfl,Nat.zero_le _,Ext.refl _,eu0⟩ ?_
  rintro i vs h1 _ ⟨rfl,hi,e1,hu⟩
  simp only[g0]
  refine ig (fun hlt=>dL ?_) (fun hge=>dO ?_)
  ·obtain⟨x,hx,-,-⟩:=aU (show i < xs.length by omega)
   obtain⟨y,hy,-,-⟩:=aU (show i < ys.length by omega)
   refine dw r hx rfl fun b o cs Fi a rx _=>?_
   have hl:=Cel.len rx
   refine mZ a e1 hpos (List.take_of_length_le (by omega)) hl (iH (Co rfl hl (by omega) ?_))
   rw[yV (by omega)]
   refine dw r' hy rfl fun b' o' cs' Fi' a' ry _=>?_
   have hl':=Cel.len ry
   refine mZ a' (e1.push _) hpos (List.take_of_length_le (by omega)) hl' (iH (Co rfl hl' (by omega) ?_))
   rw[yV (by omega)]
   refine mZ (oV.push _) (Ext.refl _) hpos (List.take_of_length_le (by omega)) hl (mZ oV (Ext.refl _) hpos (List.take_of_length_le (by omega)) hl' ?_)
   have e2:Ext h ((h1.push ⟨cs,0,0⟩).push ⟨cs',0,0⟩):=(e1.push _).push _
   refine uL (hf x (List.mem_of_getElem? hx) y cs cs' Fi Fi' _ e2 (jJ rx e2) (jJ ry e2)) (ML ?_)
   refine CS (fun hp=>?_) (fun hp=>?_)
   ·exact jB (pf (XL hx hy (wR (by simpa using hp))) e2)
   ·exact nJ (by omega) (bN (dN ⟨by omega,rfl,by omega,e2,euS hu hx hy (oU (by simpa using hp))⟩))
  ·exact bN (jC (by decide) (je (by decide) (jf (jB (pt (XM (by rw[show i=xs.length by omega] at hu;exact hu) (by omega)) e1)))))
end
end Go.Ab
end
section
namespace Go.Ab
open Go.RowKit
section
variable{α:Type} [Cel α] {P:Program} {h:AH} {Q:Nat→List AV→AH→Prop} {k:AV→Prog}
theorem gu {w:Nat} (hw:w=Cel.w α):ah (h.push ⟨[],w,0⟩) (.sl h.n 0 0) ([]:List α) [h.n]∧∀ n,n≤h.n→Own n (h.push ⟨[],w,0⟩) [h.n]:=by
 subst hw
 exact⟨kX (n:=0) rfl (by decide) ⟨rfl,rfl⟩,fun n hn=>oD hn rfl (by simp) Own.nil⟩
theorem iC {n es bytes:Nat} {x:AV} {xs:List α} {a:α} {cs:List AV} {Fx G:List Nat} (rx:ah h x xs Fx) (ra:Cel.rep h a cs G) (o:Own n h (Fx++G)) (hn:n≤h.n) (hw:es=Cel.w α) (hs:(xs.length+1) * bytes≤70368744177664) (hs2:xs.length+1 < 281474976710656)
  (hk:∀ v h' F',(∀ h0,Ext h0 h→h0.n≤n→Ext h0 h')→Kp h h' Fx→ah h' v (xs++[a]) F'→Own n h' F'→(∀ c∈F',c∈Fx∨c∈G∨h.n≤c)→(k v).awp P h' Q):(Prog.op (.app es bytes x (.sl h.n 0 1)) k).awp P (h.push ⟨cs,es,0⟩) Q:=by
 subst hw
 have ry:=kX (n:=1) (xs:=[a]) rfl (by decide) (qH ra)
 refine xg (n:=n) (dU rx) ry ?_ (by simp;omega) rfl (by simpa using hs) (by simpa using hs2) ?_
 ·simp only[List.tail_cons]
  refine o.ext ((Ext.refl h).push _) fun b hb=>?_
  rcases List.mem_append.1 hb with hb|hb
  ·exact rx.lt b hb
  ·exact Cel.lt ra b hb
 ·intro v h' F' kp r' o' hF
  have kp':Kp h h' Fx:=(Kp.gK ((Ext.refl h).push _)).trans kp
  refine hk v h' F' (fun h0 e hn0=>kp'.ext e fun b hb=>?_) kp' r' o' fun c hc=>?_
  ·have:=(o.2 b (List.mem_append_left _ hb)).1;omega
  ·rcases hF c hc with hc|hc|hc
   ·exact .inl hc
   ·exact .inr (.inl hc)
   ·exact .inr (.inr (Nat.le_trans (by simp) hc))
theorem app1 {n es bytes:Nat} {x:AV} {xs:List α} {a:α} {cs:List AV} {Fx G:List Nat} (rx:ah h x xs Fx) (ra:Cel.rep h a cs G) (o:Own n h (Fx++G)) (hn:n≤h.n) (hw:es=Cel.w α) (hs:(xs.length+1) * bytes≤70368744177664) (hs2:xs.length+1 < 281474976710656)
  (hk:∀ v h' F',(∀ h0,Ext h0 h→h0.n≤n→Ext h0 h')→Kp h h' Fx→ah h' v (xs++[a]) F'→Own n h' F'→(k v).awp P h' Q):(Prog.op (.app es bytes x (.sl h.n 0 1)) k).awp P (h.push ⟨cs,es,0⟩) Q:=by
 subst hw
 have ry:=kX (n:=1) (xs:=[a]) rfl (by decide) (qH ra)
 refine tF (n:=n) (dU rx) ry ?_ (by simp;omega) rfl (by simpa using hs) (by simpa using hs2) ?_
 ·simp only[List.tail_cons]
  refine o.ext ((Ext.refl h).push _) fun b hb=>?_
  rcases List.mem_append.1 hb with hb|hb
  ·exact rx.lt b hb
  ·exact Cel.lt ra b hb
 ·intro v h' F' kp r' o'
  have kp':Kp h h' Fx:=(Kp.gK ((Ext.refl h).push _)).trans kp
  refine hk v h' F' (fun h0 e hn0=>kp'.ext e fun b hb=>?_) kp' r' o'
  have:=(o.2 b (List.mem_append_left _ hb)).1;omega
theorem app0 {n es bytes:Nat} {y:AV} {ys:List α} {Fy:List Nat} (ry:ah h y ys Fy) (o:Own n h Fy.tail) (hn:n≤h.n) (hw:es=Cel.w α) (hs:ys.length * bytes≤70368744177664)
  (hk:∀ v h' F',Ext h h'→ah h' v ys F'→Own n h' F'→(k v).awp P h' Q):(Prog.op (.app es bytes .aA y) k).awp P h Q:=by
 have:=ry.small
 refine tF (n:=n) (xs:=[]) ah.aA ry (by simpa using o) hn hw (by simpa using hs) (by simpa using this) ?_
 intro v h' F' kp r' o'
 exact hk v h' F' (kp.ext (Ext.refl _) (by simp)) r' o'
theorem DT {n es bytes:Nat} {y:AV} {ys:List α} {Fy:List Nat} (ry:ah h y ys Fy) (o:Own n h Fy.tail) (hn:n≤h.n) (hw:es=Cel.w α) (hs:ys.length * bytes≤70368744177664)
  (hk:∀ v h' F',Ext h h'→ah h' v ys F'→Own n h' F'→(k v).awp P h' Q):(Prog.op (.app es bytes (.sl h.n 0 0) y) k).awp P (h.push ⟨[],es,0⟩) Q:=by
 have hsm:=ry.small
 obtain⟨re,oe⟩:=gu (h:=h) (α:=α) hw
 have hlt:=ry.lt
 have Dt:∀ b∈Fy.tail,b < h.n:=fun b hb=>hlt b (List.mem_of_mem_tail hb)
 refine tF (n:=n) (xs:=[]) re (dU ry) ?_ (by simp;omega) hw (by simpa using hs) (by simpa using hsm) ?_
 ·exact oD hn rfl Dt o
 ·intro v h' F' kp r' o'
  exact hk v h' F' ⟨Nat.le_trans (by simp) kp.1,fun b hb=>by
   rw[kp.2 b (by simp;omega) (by simp;omega)]
   have:b≠h.n:=by omega
   simp[this]⟩ r' o'
end
section
variable{α:Type} [Flat α] {h:AH}
end
end Go.Ab
end
section
namespace Go.Ab
variable{h:AH} {P:Program} {Q:Nat→List AV→AH→Prop} {k:AV→Prog}
end Go.Ab
end
section
namespace Go.Ab
open Go.RowKit
theorem BI {α:Type} {xs:List α} {i:Nat} {x x':α} (hx:xs[i]? =some x):xs.set i x'=xs.take i++x'::xs.drop (i+1):=by
 have hi:=(List.getElem?_eq_some_iff.1 hx).1
 rw[List.set_eq_take_append_cons_drop,if_pos hi]
theorem oC {α:Type} {xs:List α} {i:Nat} {x:α} (hx:xs[i]? =some x):xs=xs.take i++x::xs.drop (i+1):=by
 obtain⟨y,hy,hd,-⟩:=aU (List.getElem?_eq_some_iff.1 hx).1
 rw[hx] at hy;cases hy
 rw[←hd,List.take_append_drop]
section
variable{α:Type} [Cel α] {h h':AH}
theorem bR.Gz:∀ {xs ys:List α} {cs:List AV} {F:List Nat},bR h (xs++ys) cs F→∃ c1 c2 F1 F2,cs=c1++c2∧F=F1++F2∧bR h xs c1 F1∧bR h ys c2 F2
 |[],ys,cs,F,r=>⟨[],cs,[],F,rfl,rfl,⟨rfl,rfl⟩,r⟩
 |x::xs,ys,cs,F,r=>by
  obtain⟨c1,c2,F1,F2,rfl,rfl,r1,r2⟩:=r
  obtain⟨d1,d2,G1,G2,rfl,rfl,q1,q2⟩:=bR.Gz r2
  exact⟨c1++d1,d2,F1++G1,G2,by simp,by simp,⟨c1,d1,F1,G1,rfl,rfl,r1,q1⟩,q2⟩
theorem ah.zip {v:AV} {xs:List α} {F:List Nat} (r:ah h v xs F) {i:Nat} {x:α} (hx:xs[i]? =some x):
  ∃ b off A E R F1 Fi F2,v= .sl b off xs.length∧F=b::(F1++(Fi++F2))∧b < h.n∧live h b∧(h.get b).es=Cel.w α∧(h.get b).cells=A++(E++R)∧A.length=off+i * Cel.w α∧Cel.rep h x E Fi∧
   ∀ (h':AH) (x':α) (E':List AV) (Fi':List Nat),(h'.get b).cells=A++(E'++R)→(h'.get b).es=Cel.w α→live h' b→b < h'.n→(∀ c∈F1++F2,h'.get c=h.get c∧c < h'.n)→Cel.rep h' x' E' Fi'→
    ah h' v (xs.set i x') (b::(F1++(Fi'++F2))):=by
 have hi:i < xs.length:=(List.getElem?_eq_some_iff.1 hx).1
 rcases r with⟨_,h1,_⟩|⟨b,off,F',cs,e1,rfl,h1,h2,h3,h4,h5,h6,h7⟩
 ·omega
 ·have h7':=h7
  have hsp:xs=xs.take i++([x]++xs.drop (i+1)):=by simpa using oC hx
  rw[hsp] at h7'
  obtain⟨c1,c2,F1,F2,rfl,rfl,q1,q2⟩:=h7'.Gz
  obtain⟨E,c3,Fi,F3,rfl,rfl,q3,q4⟩:=q2
  have q3:Cel.rep h x E Fi:=q3
  have l1:=q1.length
  have l3:=Cel.len q3
  have l4:=bR.length (xs:=xs.drop (i+1)) q4
  rw[List.length_take,Nat.min_eq_left (by omega)] at l1
  rw[List.length_drop] at l4
  have hmul:xs.length * Cel.w α=i * Cel.w α+Cel.w α+(xs.length - (i+1)) * Cel.w α:=by
   rw[←Nat.succ_mul,←Nat.add_mul];congr 1;omega
  have hcells:(h.get b).cells=((h.get b).cells.take off++c1)++(E++(c3++(h.get b).cells.drop (off+xs.length * Cel.w α))):=by
   have:(h.get b).cells=(h.get b).cells.take off++((c1++(E++c3))++(h.get b).cells.drop (off+xs.length * Cel.w α)):=by
    rw[h6,←List.append_assoc,←List.take_add,List.take_append_drop]
   simpa using this
  refine⟨b,off,(h.get b).cells.take off++c1,E,c3++(h.get b).cells.drop (off+xs.length * Cel.w α),F1,Fi,F3,e1,rfl,h1,h2,h3,hcells,?_,q3,?_⟩
  ·rw[List.length_append,List.length_take,l1];omega
  ·intro h' x' E' Fi' g1 g2 g3 g4 g5 g6
   have lE:=Cel.len g6
   rw[BI hx]
   refine .inr ⟨b,off,F1++(Fi'++F3),c1++(E'++c3),?_,rfl,g4,g3,g2,?_,?_,?_,?_⟩
   ·rw[e1];congr 1
    simp only[List.length_append,List.length_take,List.length_cons,List.length_drop];omega
   ·rw[g1]
    simp only[List.length_append,List.length_take,List.length_cons,List.length_drop,lE,l1,l4]
    have:(min i xs.length+(xs.length - (i+1)+1))=xs.length:=by omega
    rw[this,hmul]
    omega
   ·simp only[List.length_append,List.length_take,List.length_cons,List.length_drop];omega
   ·rw[g1]
    have e2:(List.take i xs++x'::List.drop (i+1) xs).length=xs.length:=by simp only[List.length_append,List.length_take,List.length_cons,List.length_drop];omega
    rw[e2]
    have e3:((h.get b).cells.take off).length=off:=by rw[List.length_take];omega
    have e4:(c1++(E'++c3)).length=xs.length * Cel.w α:=by rw[List.length_append,List.length_append,l1,lE,l4,hmul];omega
    rw[show((h.get b).cells.take off++c1)++(E'++(c3++(h.get b).cells.drop (off+xs.length * Cel.w α)))=(h.get b).cells.take off++((c1++(E'++c3))++(h.get b).cells.drop (off+xs.length * Cel.w α)) by simp]
    rw[List.drop_left' e3,←e4,List.take_left]
   ·have k1:bR h' (xs.take i) c1 F1:=q1.keep fun c hc=>g5 c (List.mem_append_left _ hc)
    have k2:bR h' (xs.drop (i+1)) c3 F3:=bR.keep (xs:=xs.drop (i+1)) q4 fun c hc=>g5 c (List.mem_append_right _ hc)
    exact k1.append ⟨E',c3,Fi',F3,rfl,rfl,g6,k2⟩
end
section
variable{P:Program} {h:AH} {Q:Nat→List AV→AH→Prop} {k:AV→Prog}
theorem MQ {n b o j es:Nat} {A E E' R xs:List AV} {x:AV} (hg:h.get b=⟨A++(E++R),es,0⟩) (ho:A.length=o) (hx:x.cells? =some xs) (hn:xs.length=n) (s:SP E j xs E') (hk:(k (.tup [])).awp P (h.upd b ⟨A++(E'++R),es,0⟩) Q):
  (Prog.op (.st n (.ptr b (o+j)) x) k).awp P h Q:=by
 obtain⟨s1,rfl⟩:=s
 subst ho hn
 refine II (by simp[mine,hg]) hx rfl (by rw[hg];simp only[List.length_append];omega) ?_
 have:splice (A++(E++R)) (A.length+j) xs=A++(splice E j xs++R):=by
  have e1:A++(E++R)=(A++E.take j)++(E.drop j++R):=by
   rw[List.append_assoc,←List.append_assoc (E.take j),List.take_append_drop]
  rw[e1,Tw (A:=A++E.take j) (by simp;omega) (by simp;omega),List.drop_append_of_le_length (by simp;omega),List.drop_drop]
  unfold splice
  simp
 rw[hg];simp only[this];exact hk
theorem Aw {b es st:Nat} {A E R:List AV} {o:Nat} (hb:b < h.n) (hl:live h b) (hg:(h.get b).cells=A++(E++R)) (ho:A.length=o):At h b o E:=by
 subst ho
 exact⟨hb,hl,by rw[hg];simp⟩
end
theorem zn {α:Type} [Flat α] {h0 h:AH} {v:AV} {xs:List α} {F:List Nat} (r:ah h0 v xs F) (n:Nat):Own n h F.tail:=by
 rcases r.flat with⟨_,_,rfl⟩|⟨b,_,_,_,rfl,_⟩<;>exact Own.nil
section
variable{α:Type} [Cel α] {P:Program} {h h0:AH} {Q:Nat→List AV→AH→Prop} {k:AV→Prog}
theorem aib {n:Nat} {b:Nat} {A B C:List Nat} (o:Own n h (b::(A++(B++C)))):Own n h B:=
 ⟨(List.nodup_append.1 (List.nodup_append.1 (List.nodup_cons.1 o.1).2).2.1).1,fun c hc=>o.2 c (by simp[hc])⟩
theorem UO {n:Nat} {F G:List Nat} (o:Own n h (F++G)):Own n h (F++G.tail):=by
 cases G with
 |nil=>exact o
 |cons b G=>
  have h1:=List.nodup_append.1 o.1
  exact⟨List.nodup_append.2 ⟨h1.1,(List.nodup_cons.1 h1.2.1).2,fun a ha c hc e=>h1.2.2 a ha c (List.mem_cons_of_mem _ hc) e⟩,fun c hc=>o.2 c (by
   rcases List.mem_append.1 hc with hc|hc
   ·simp[hc]
   ·simp[show c∈G from hc])⟩
theorem akg {n es bytes:Nat} {x y:AV} {xs ys:List α} {Fx Fy:List Nat} (rx:ah h x xs Fx) (ry:ah h y ys Fy) (o:Own n h (Fx++Fy)) (hn:n≤h.n) (hw:es=Cel.w α) (hb:(xs.length+ys.length) * bytes≤70368744177664) (hs:xs.length+ys.length < 281474976710656)
  (hk:∀ v h' F',(∀ h0,Ext h0 h→h0.n≤n→Ext h0 h')→Kp h h' Fx→ah h' v (xs++ys) F'→Own n h' F'→(k v).awp P h' Q):(Prog.op (.app es bytes x y) k).awp P h Q:=by
 refine tF rx ry (UO o) hn hw hb hs fun v h' F' kp r' o'=>hk v h' F' (fun h0 e hn0=>kp.ext e fun b hb=>?_) kp r' o'
 have:=(o.2 b (List.mem_append_left _ hb)).1;omega
end
section
variable{α:Type} [Flat α] {P:Program} {h:AH} {Q:Nat→List AV→AH→Prop} {k:AV→Prog}
theorem vM {n es bytes:Nat} {x y:AV} {xs ys:List α} {Fx Fy:List Nat} (rx:ah h x xs Fx) (ry:ah h y ys Fy) (o:Own n h Fx) (hn:n≤h.n) (hw:es=Cel.w α) (hb:(xs.length+ys.length) * bytes≤70368744177664) (hs:xs.length+ys.length < 281474976710656)
  (hk:∀ v h' F',(∀ h0,Ext h0 h→h0.n≤n→Ext h0 h')→Kp h h' Fx→ah h' v (xs++ys) F'→Own n h' F'→(k v).awp P h' Q):(Prog.op (.app es bytes x y) k).awp P h Q:=by
 have ht:Fy.tail=[]:=by rcases ry.flat with⟨_,_,rfl⟩|⟨b,_,_,_,rfl,_⟩<;>rfl
 refine tF rx ry (by rw[ht,List.append_nil];exact o) hn hw hb hs fun v h' F' kp r' o'=>hk v h' F' (fun h0 e hn0=>kp.ext e fun b hb=>?_) kp r' o'
 have:=(o.2 b hb).1;omega
end
section
variable{α:Type} [Cel α] {P:Program} {h:AH}
theorem Xk {w:Nat} {zero cs:List AV} (hz:zero.length=w) (hc:cs.length=w):dD zero [(0,w,.agg cs)]=some cs:=by
 simp only[dD,AV.cells?]
 rw[if_pos ⟨hc,by omega⟩,yV (by omega)]
def XC (w bytes:Nat) (zero:List AV) (c:Nat) (x0:AV):Prog:=.op (.len 0 x0) fun v1=>.loop [AV.aA,AV.int .i64 0] (fun vs2=>.op (.bin 0 .lss (g vs2 1) v1) fun v4=>.ite v4 (.op (.idx w x0 (g vs2 1)) fun v5=>.op (.ldn w v5) fun v6=>.op (.alloc zero) fun v7=>.op (.st w v7 v6) fun v8=>.op (.ldn w v7) fun v9=>.op (.call c [v9]) fun v10=>.op (.aS w 1 zero [(0,w,v10)]) fun v11=>.op (.app w bytes (g vs2 0) v11) fun v12=>.op (.bin 0 .add (g vs2 1) (AV.int .i64 1)) fun v13=>.leaf 0 [v12,v13]) (.leaf 2 [g vs2 0,g vs2 1])) fun t3 vs2=>aC t3 1 (.leaf 1 vs2) (aC t3 2 (.fin [.val (g vs2 0)]) .bad)
theorem Uo {w bytes c:Nat} {zero:List AV} (hw:w=Cel.w α) (hz:zero.length=w) (hw2:w≤1000) {xs:List α} (hc:∀ x∈xs,mP α P c x) {x0:AV} {F:List Nat} (r:ah h x0 xs F) (hs:xs.length * bytes≤70368744177664):
  (XC w bytes zero c x0).awp P h fun t vs h'=>t=1∧∃ u,vs=[u]∧rF α h xs u h':=by
 subst hw
 unfold XC
 have hsm:=r.small
 have hpos:=Cel.pos (α:=α)
 refine eG r ?_
 refine aX xs.length (fun i vs h1=>∃ u G,vs=[u,.int .i64 (i:Int)]∧i≤xs.length∧Ext h h1∧ah h1 u (xs.take i) G∧Own h.n h1 G) ⟨.aA,[],rfl,Nat.zero_le _,Ext.refl _,ah.aA,Own.nil⟩ ?_
 rintro i vs h1 _ ⟨u,G,rfl,hi,e1,ru,ou⟩
 simp only[g0,g1]
 refine ig (fun hlt=>dL ?_) (fun hge=>dO ?_)
 ·obtain⟨x,hx,-,htk⟩:=aU (show i < xs.length by omega)
  refine dw r hx rfl fun b o cs Fi a rx _=>?_
  have hl:=Cel.len rx
  refine mZ a e1 hpos (List.take_of_length_le (by omega)) hl (iH (Co rfl hl (by omega) ?_))
  rw[yV (by omega)]
  refine mZ oV (Ext.refl _) hpos (List.take_of_length_le (by omega)) hl ?_
  have e2:=e1.push ⟨cs,0,0⟩
  refine aL (hc x (List.mem_of_getElem? hx) cs Fi _ (jJ rx e2)) ?_
  rintro _ h2 ⟨e3,cs',G2,rfl,rx',o2⟩
  have n3:=e3.1
  simp only[aJ] at n3
  refine zl (Xk hz (Cel.len rx')) (by omega) (by rw[Cel.len rx',Nat.one_mul]) ?_
  have ru2:ah h2 u (xs.take i) G:=(ru.ext ((Ext.refl h1).push _)).ext e3
  have hlen:(xs.take i).length=i:=by rw[List.length_take];omega
  have o3:Own h.n h2 (G++G2):=by
   refine iK ((ou.ext ((Ext.refl h1).push _) ru.lt).ext e3 fun b hb=>by have:=ru.lt b hb;simp;omega) o2 (by have:=e1.1;simp only[aJ];omega) fun c h1 h2=>?_
   have:=ru.lt c h1;have:=(o2.2 c h2).1;simp only[aJ] at this;omega
  refine app1 (n:=h.n) ru2 rx' o3 (by have:=e1.1;omega) rfl ?_ (by rw[hlen];omega) ?_
  ·rw[hlen];exact Nat.le_trans (Nat.mul_le_mul_right _ (by omega)) hs
  ·intro u' h' F' ek kp r' o'
   refine nJ (by omega) (bN (dN ⟨by omega,u',F',rfl,by omega,ek h (e2.trans e3) (Nat.le_refl _),by rw[htk];exact r',o'⟩))
 ·exact bN (jC (by decide) (je (by decide) (jf (jB ⟨rfl,u,rfl,e1,G,by rw[show i=xs.length by omega,List.take_length] at ru;exact ru,ou⟩))))
def XB (w bytes:Nat) (zero:List AV) (c:Nat) (x0:AV):Prog:=.op (.aS w 0 [] []) fun v1=>.loop [v1,AV.int .i64 0] (fun vs2=>.op (.len 0 x0) fun v4=>.op (.bin 0 .lss (g vs2 1) v4) fun v5=>.ite v5 (.op (.idx w x0 (g vs2 1)) fun v6=>.op (.ldn w v6) fun v7=>.op (.call c [v7]) fun v8=>.op (.alloc zero) fun v9=>.op (.st w v9 v8) fun v10=>.op (.ldn w v9) fun v11=>.op (.aS w 1 zero [(0,w,v11)]) fun v12=>.op (.app w bytes (g vs2 0) v12) fun v13=>.op (.bin 0 .add (g vs2 1) (AV.int .i64 1)) fun v14=>.leaf 0 [v13,v14]) (.leaf 2 [g vs2 0,g vs2 1])) fun t3 vs2=>aC t3 1 (.leaf 1 vs2) (aC t3 2 (.fin [.val (g vs2 0)]) .bad)
theorem Li {w bytes c:Nat} {zero:List AV} (hw:w=Cel.w α) (hz:zero.length=w) (hw2:w≤1000) {xs:List α} (hc:∀ x∈xs,mP α P c x) {x0:AV} {F:List Nat} (r:ah h x0 xs F) (hs:xs.length * bytes≤70368744177664):
  (XB w bytes zero c x0).awp P h fun t vs h'=>t=1∧∃ u,vs=[u]∧rF α h xs u h':=by
 subst hw
 unfold XB
 have hsm:=r.small
 have hpos:=Cel.pos (α:=α)
 obtain⟨re,oe⟩:=gu (h:=h) (α:=α) (w:=Cel.w α) rfl
 refine zl rfl (by omega) (by simp) ?_
 refine aX xs.length (fun i vs h1=>∃ u G,vs=[u,.int .i64 (i:Int)]∧i≤xs.length∧Ext h h1∧ah h1 u (xs.take i) G∧Own h.n h1 G) ⟨_,_,rfl,Nat.zero_le _,(Ext.refl _).push _,by rw[List.take_zero];exact re,oe _ (Nat.le_refl _)⟩ ?_
 rintro i vs h1 _ ⟨u,G,rfl,hi,e1,ru,ou⟩
 simp only[g0,g1]
 refine eG r (ig (fun hlt=>dL ?_) (fun hge=>dO ?_))
 ·obtain⟨x,hx,-,htk⟩:=aU (show i < xs.length by omega)
  refine dw r hx rfl fun b o cs Fi a rx _=>?_
  have hl:=Cel.len rx
  refine mZ a e1 hpos (List.take_of_length_le (by omega)) hl ?_
  refine aL (hc x (List.mem_of_getElem? hx) cs Fi _ (jJ rx e1)) ?_
  rintro _ h2 ⟨e3,cs',G2,rfl,rx',o2⟩
  have n3:=e3.1
  have hl2:=Cel.len rx'
  refine iH (Co rfl hl2 (by omega) ?_)
  rw[yV (by omega)]
  refine mZ oV (Ext.refl _) hpos (List.take_of_length_le (by omega)) hl2 ?_
  have e4:=(Ext.refl h2).push ⟨cs',0,0⟩
  refine zl (Xk hz hl2) (by omega) (by rw[hl2,Nat.one_mul]) ?_
  have ru2:ah h2 u (xs.take i) G:=ru.ext e3
  have hlen:(xs.take i).length=i:=by rw[List.length_take];omega
  have o3:Own h.n h2 (G++G2):=by
   refine iK (ou.ext e3 ru.lt) o2 e1.1 fun c h1 h2=>?_
   have:=ru.lt c h1;have:=(o2.2 c h2).1;omega
  refine app1 (n:=h.n) (ru2.ext e4) (jJ rx' e4) (o3.ext e4 fun b hb=>?_) (by have:=e1.1;simp only[aJ];omega) rfl ?_ (by rw[hlen];omega) ?_
  ·rcases List.mem_append.1 hb with hb|hb
   ·exact ru2.lt b hb
   ·exact Cel.lt rx' b hb
  ·rw[hlen];exact Nat.le_trans (Nat.mul_le_mul_right _ (by omega)) hs
  ·intro u' h' F' ek kp r' o'
   refine nJ (by omega) (bN (dN ⟨by omega,u',F',rfl,by omega,ek h ((e1.trans e3).trans e4) (Nat.le_refl _),by rw[htk];exact r',o'⟩))
 ·exact bN (jC (by decide) (je (by decide) (jf (jB ⟨rfl,u,rfl,e1,G,by rw[show i=xs.length by omega,List.take_length] at ru;exact ru,ou⟩))))
end
end Go.Ab
end
section
namespace Go.Ab
open Go.RowKit
section
variable{P:Program} {h:AH} {Q:Nat→List AV→AH→Prop} {k:AV→Prog}
theorem agI {b off ln es bytes n:Nat} {y:AV} {new:List AV} (hm:mine h b) (he:es≠0) (hes:(h.get b).es=es) (hy:qI h es y=some new) (hn:mI y=some n) (hl:CX h y) (hfit:off+(ln+n) * es≤(h.get b).cells.length)
  (hk:(k (.sl b off (ln+n))).awp P (h.upd b {h.get b with cells:=splice (h.get b).cells (off+ln * es) new}) Q):(Prog.op (.app es bytes (.sl b off ln) y) k).awp P h Q:=by
 simp only[Prog.awp,AOp.go,hy,hn]
 refine⟨hm,hl,he,hes,?_⟩
 rw[if_pos hfit];exact hk
end
theorem Tf {β:Type} {xs:List β} {i:Nat} (hi:i < xs.length):xs.eraseIdx i=xs.take i++xs.drop (i+1):=List.eraseIdx_eq_take_drop_succ ..
section
variable{α:Type} [Cel α] {P:Program} {h:AH}
theorem ah.top {n:Nat} {xs:List α} {v:AV} {F:List Nat} (r:ah h v xs F) (o:Own n h F) (hi:0 < xs.length):∃ b off,v= .sl b off xs.length∧mine h b∧(h.get b).es=Cel.w α∧off+xs.length * Cel.w α≤(h.get b).cells.length∧n≤b∧b < h.n:=by
 rcases r with⟨_,h1,_⟩|⟨b,off,F',cs,e1,rfl,h1,h2,h3,h4,h5,h6,h7⟩
 ·omega
 ·exact⟨b,off,e1,(o.2 b (by simp)).2,h3,h4,(o.2 b (by simp)).1,h1⟩
theorem aiJ {bytes i n:Nat} {xs:List α} {b off:Nat} {F:List Nat} (r:ah h (.sl b off xs.length) xs F) (o:Own n h F) (hi:i < xs.length) {Q:Nat→List AV→AH→Prop} {k:AV→Prog}
  (hk:∀ h' F',Kp h h' F→ah h' (.sl b off (xs.length - 1)) (xs.eraseIdx i) F'→Own n h' F'→(∀ c∈F',c∈F)→h'.n=h.n→(k (.sl b off (xs.length - 1))).awp P h' Q):
  (Prog.op (.app (Cel.w α) bytes (.sl b off i) (.sl b (off+(i+1) * Cel.w α) (xs.length - (i+1)))) k).awp P h Q:=by
 have hpos:=Cel.pos (α:=α)
 have hsm:=r.small
 obtain⟨x,hx,-,-⟩:=aU hi
 rcases r with⟨_,h1,_⟩|⟨b',off',F',cs,e1,rfl,h1,h2,h3,h4,h5,h6,h7⟩
 ·omega
 cases e1
 have hm:mine h b:=(o.2 b (by simp)).2
 have h7':=h7
 have hsp:xs=xs.take i++([x]++xs.drop (i+1)):=by simpa using oC hx
 rw[hsp] at h7'
 obtain⟨c1,c23,F1,F23,rfl,rfl,q1,q2⟩:=h7'.Gz
 obtain⟨E,c2,Fi,F2,rfl,rfl,q3,q4⟩:=q2
 have q3:Cel.rep h x E Fi:=q3
 have l1:=q1.length
 have l3:=Cel.len q3
 have l4:=bR.length (xs:=xs.drop (i+1)) q4
 rw[List.length_take,Nat.min_eq_left (by omega)] at l1
 rw[List.length_drop] at l4
 have hmul:xs.length * Cel.w α=i * Cel.w α+Cel.w α+(xs.length - (i+1)) * Cel.w α:=by
  rw[←Nat.succ_mul,←Nat.add_mul];congr 1;omega
 have aj6:(i+1) * Cel.w α=i * Cel.w α+Cel.w α:=Nat.succ_mul _ _
 obtain⟨pre,post,hcells,hpre⟩:∃ pre post,(h.get b).cells=pre++(c1++(E++(c2++post)))∧pre.length=off:=by
  refine⟨(h.get b).cells.take off,(h.get b).cells.drop (off+xs.length * Cel.w α),?_,by rw[List.length_take];omega⟩
  have:(h.get b).cells=(h.get b).cells.take off++((c1++(E++c2))++(h.get b).cells.drop (off+xs.length * Cel.w α)):=by
   rw[h6,←List.append_assoc,←List.take_add,List.take_append_drop]
  simpa using this
 have hst:(h.get b).st=0:=hm
 have hnew:qI h (Cel.w α) (.sl b (off+(i+1) * Cel.w α) (xs.length - (i+1)))=some c2:=by
  simp only[qI]
  rw[if_pos (by rw[aj6];omega),hcells]
  congr 1
  rw[show pre++(c1++(E++(c2++post)))=(pre++(c1++E))++(c2++post) by simp,show off+(i+1) * Cel.w α=(pre++(c1++E)).length by simp only[List.length_append];omega,List.drop_left,←l4,List.take_left]
 have hlen1:i+(xs.length - (i+1))=xs.length - 1:=by omega
 have alp:(xs.length - 1) * Cel.w α+Cel.w α=xs.length * Cel.w α:=by rw[←Nat.succ_mul];congr 1;omega
 refine agI hm (by omega) h3 hnew rfl (.inr h2) (by rw[hlen1];omega) ?_
 rw[hlen1]
 have hL1:(splice (h.get b).cells (off+i * Cel.w α) c2).length=(h.get b).cells.length:=Kq _ _ _ (by rw[l4];omega)
 have hfin:splice (h.get b).cells (off+i * Cel.w α) c2=pre++((c1++c2)++(E++(c2++post)).drop c2.length):=by
  rw[hcells,show off+i * Cel.w α=(pre++c1).length by simp only[List.length_append];omega,show pre++(c1++(E++(c2++post)))=(pre++c1)++(E++(c2++post)) by simp,Tw rfl (by simp;omega)]
  simp
 have hnb:b ∉ F1++(Fi++F2):=(List.nodup_cons.1 o.1).1
 generalize hZ:splice (h.get b).cells (off+i * Cel.w α) c2=Z at hL1 hfin ⊢
 have keep:∀ c∈F1++(Fi++F2),(h.upd b ⟨Z,(h.get b).es,(h.get b).st⟩).get c=h.get c:=fun c hc=>by
  have:c≠b:=fun e=>hnb (e▸hc)
  simp[this]
 have hes:(xs.eraseIdx i).length=xs.length - 1:=by rw[List.length_eraseIdx,if_pos hi]
 refine hk _ (b::(F1++F2)) ?_ (.inr ⟨b,off,F1++F2,c1++c2,by rw[hes],rfl,by simpa using h1,by simpa[live] using h2,by simpa using h3,?_,by omega,?_,?_⟩) ?_ ?_ rfl
 ·exact⟨Nat.le_refl _,fun c _ hX=>by have:c≠b:=fun e=>hX (by simp[e]);simp[this]⟩
 ·simp only[oJ,if_true,hL1];rw[hes];omega
 ·simp only[oJ,if_true]
  rw[hes,hfin,←hpre,List.drop_left,show(xs.length - 1) * Cel.w α=(c1++c2).length by simp only[List.length_append];omega,List.take_left]
 ·rw[Tf hi]
  exact(q1.keep fun c hc=>⟨keep c (by simp[hc]),by simpa using q1.lt c hc⟩).append (bR.keep (xs:=xs.drop (i+1)) q4 fun c hc=>⟨keep c (by simp[hc]),by simpa using bR.lt (xs:=xs.drop (i+1)) q4 c hc⟩)
 ·have hnd:=List.nodup_cons.1 o.1
  have xZ:=List.nodup_append.1 hnd.2
  have Au:=List.nodup_append.1 xZ.2.1
  refine⟨List.nodup_cons.2 ⟨fun hc=>hnb (by simp at hc ⊢;rcases hc with hc|hc<;>simp[hc]),List.nodup_append.2 ⟨xZ.1,Au.2.1,fun a ha c hc e=>xZ.2.2 a ha c (by simp[hc]) e⟩⟩,fun c hc=>?_⟩
  have hc':c∈b::(F1++(Fi++F2)):=by simp at hc ⊢;rcases hc with hc|hc|hc<;>simp[hc]
  refine⟨(o.2 c hc').1,?_⟩
  by_cases e:c=b
  ·subst e;simpa using hst
  ·simp[e];exact(o.2 c hc').2
 ·intro c hc
  simp at hc ⊢;rcases hc with hc|hc|hc<;>simp[hc]
end
end Go.Ab
end
section
namespace Go.Ab
open Go.RowKit
section
variable{α:Type} [Cel α] {P:Program} {h:AH}
end
section
variable{h:AH} {F G H:List Nat}
theorem Vj (a:∀ c∈F,c ∉ G) (b:∀ c∈F,c ∉ H):∀ c∈F,c ∉ G++H:=fun c hc hm=>by
 rcases List.mem_append.1 hm with hm|hm
 ·exact a c hc hm
 ·exact b c hc hm
theorem XT (d:∀ c∈F,c ∉ G++H):∀ c∈F,c ∉ G:=fun c hc hm=>d c hc (List.mem_append_left _ hm)
theorem XR (d:∀ c∈F,c ∉ G++H):∀ c∈F,c ∉ H:=fun c hc hm=>d c hc (List.mem_append_right _ hm)
theorem j6 (d:∀ c∈F,c ∉ G:=by(repeat(first|assumption|with_reducible apply Vj|exact ng))):∀ c∈F,c ∉ G:=d
end
end Go.Ab
end
section
namespace Go.Ab
open Go.RowKit
section
variable{α:Type} [Cel α] {P:Program} {h:AH}
def Ij (α:Type) [Cel α] (P:Program) (h:AH) (f:FuncId) (caps:List AV) (xs:List α) (p:α→Bool):Prop:=∀ (x:α) (cs:List AV) (F:List Nat),x∈xs→Cel.rep h x cs F→aP P f (.agg cs::caps) h (.bool (p x))
theorem agt {w:Nat} (hw:w=Cel.w α) {xs:List α} {x0:AV} {F:List Nat} {f:FuncId} {caps:List AV} {p:α→Bool} (r:ah h x0 xs F) (hf:Ij α P h f caps xs p):
  (Iu w x0 (.fn f caps)).awp P h (Post (.int .i64 (idx p xs)) h):=by
 subst hw
 have hsm:=r.small
 have hpos:=Cel.pos (α:=α)
 unfold Iu
 refine eG r ?_
 refine aX xs.length (fun i vs h1=>vs=[.int .i64 (i:Int)]∧i≤xs.length∧h1=h∧∀ j y,j < i→xs[j]? =some y→p y=false) ⟨rfl,Nat.zero_le _,rfl,fun j y hj=>by omega⟩ ?_
 rintro i vs h1 _ ⟨rfl,hi,rfl,hn⟩
 refine ig ?_ ?_
 ·intro hlt
  have hlt:i < xs.length:=by simp[g] at hlt;exact hlt
  obtain⟨x,hx,_,htk⟩:=aU hlt
  refine dL (dw r hx rfl ?_)
  intro bb o cs Fi a rx _
  refine mZ a (Ext.refl _) hpos (by rw[List.take_of_length_le (by rw[Cel.len rx];exact Nat.le_refl _)]) (Cel.len rx) (uL (hf x cs Fi (List.mem_of_getElem? hx) rx) (CS ?_ ?_))
  ·intro hp
   exact jB ⟨rfl,by rw[xA hx hp hn];rfl,Ext.refl _⟩
  ·intro hp
   refine nJ (j:=i) (by omega) ?_
   refine bN (nexts ?_)
   refine⟨hlt,rfl,hlt,rfl,fun j y hj hy=>?_⟩
   by_cases e:j=i
   ·subst e;rw[hx] at hy;cases hy;exact hp
   ·exact hn j y (by omega) hy
 ·intro hge
  have:i=xs.length:=by simp[g] at hge;omega
  subst this
  exact dO (bN (XO (jB ⟨rfl,by rw[CF hn],Ext.refl _⟩)))
end
section
variable{P:Program} {h:AH} {Q:Nat→List AV→AH→Prop} {k:AV→Prog}
theorem Wn {n:Nat} {z y:Int} {v:AV} {xs:List Int} {F:List Nat} (r:ah h v xs F) (o:Own n h F) (hz:0≤z) (hl:z < xs.length)
  (hk:∀ h',(∀ h0,Ext h0 h→h0.n≤n→Ext h0 h')→Kp h h' F→h'.n=h.n→ah h' v (xs.set z.toNat y) F→Own n h' F→(k (.tup [])).awp P h' Q):
  (Prog.op (.idx 1 v (.int .i64 z)) fun a=>.op (.st 1 a (.int .i64 y)) k).awp P h Q:=by
 obtain⟨x,hx,-,-⟩:=aU (show z.toNat < xs.length by omega)
 obtain⟨b,off,A,E,R,F1,Fi,F2,rfl,rfl,hb,hlv,hes,hcs,hA,⟨rfl,rfl⟩,back⟩:=r.zip hx
 have hnd:=List.nodup_cons.1 o.1
 have hmi:(h.get b).st=0:=(o.2 b (by simp)).2
 have hg:h.get b=⟨A++([.int .i64 x]++R),1,0⟩:=by
  have:h.get b=⟨(h.get b).cells,(h.get b).es,(h.get b).st⟩:=rfl
  rw[this,hcs,hes,hmi];rfl
 have hkp:Kp h (h.upd b ⟨A++([.int .i64 y]++R),1,0⟩) (b::(F1++([]++F2))):=⟨by simp,fun c hc hn=>by
  have:c≠b:=fun e=>hn (by simp[e])
  simp[this]⟩
 have e1:z=((z.toNat:Nat):Int):=by omega
 rw[e1]
 refine zf (by omega) ?_
 refine MQ (j:=0) (E:=[.int .i64 x]) (E':=[.int .i64 y]) hg hA rfl rfl ⟨by simp,by simp[splice]⟩ ?_
 refine hk _ (fun h0 e hn0=>hkp.ext e fun c hc=>by have:=(o.2 c hc).1;omega) hkp (by simp) ?_ ⟨o.1,fun c hc=>⟨(o.2 c hc).1,?_⟩⟩
 ·refine back _ y [.int .i64 y] [] (by simp) (by simp;rfl) (by simp[live]) (by simpa using hb) (fun c hc=>?_) ⟨rfl,rfl⟩
  have h1:c≠b:=fun e=>hnd.1 (by subst e;simpa using hc)
  exact⟨by simp[h1],by simpa using r.lt c (by rcases List.mem_append.1 hc with hc|hc<;>simp[hc])⟩
 ·by_cases e:c=b
  ·subst e;simp
  ·simp[e];exact(o.2 c hc).2
end
section
variable{P:Program} {h:AH} {Q:Nat→List AV→AH→Prop} {k:AV→Prog}
theorem bC {f:FuncId} {args:List AV} {p:Prop} (c:aP P f args h (.bool (bp p))) (h1:p→(k (.bool true)).awp P h Q) (h2: ¬p→(k (.bool false)).awp P h Q):(Prog.op (.call f args) k).awp P h Q:=dS c (fun e=>h1 (oU e)) fun e=>h2 (wR e)
theorem bx {p q:Prop} (n: ¬p:=by intro _;first|omega|contradiction):p→q:=fun h=>(n h).elim
theorem bo {p q:Prop} (n: ¬p:=by intro _;omega):p→q:=fun h=>(n h).elim
end
theorem gS {A B:Prop} (hb:B) (s:B→A:=by intro hb_;with_reducible refine akc ?_;simp only[g0,g1,g2];exact hb_):A:=s hb
end Go.Ab
end
