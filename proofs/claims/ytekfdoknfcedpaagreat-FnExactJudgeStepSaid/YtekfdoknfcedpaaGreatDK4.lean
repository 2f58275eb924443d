import Derived.Test.YtekfdoknfcedpaaGreatDK3
import Derived.Test.YtekfdoknfcedpaaGreatDK2
section
set_option linter.unusedSimpArgs false
set_option linter.unusedVariables false
namespace Go.Ab
open Go.RowKit
theorem aP {p:Prop} (h:p:=by(first|omega|(simp only[aO,aV];omega)|(simp only[aO,aV] at *;omega)|(simp<;>omega))):p:=h
theorem alk {g h h0:AH} {X:List Nat} (k:Kp g h X) (e:Ext h0 g) (hl:∀ b∈X,h0.n≤b):Ext h0 h:=k.ext e hl
theorem UE {h0 h:AH} {n:Nat} {X:List Nat} (o:Own n h X) (hn:h0.n≤n):∀ b∈X,h0.n≤b:=fun b hb=>Nat.le_trans hn (o.2 b hb).1
theorem aG {a b:AH} (e:Ext a b:=by(repeat(first|assumption|exact Ext.refl _|refine Ext.push ?_ _|refine Ext.upd ?_ aP _|refine Ext.trans ?_ (by assumption)|((with_reducible apply alk);assumption)|exact UE (by assumption) aP))):Ext a b:=e
def LD (h:AH) (b o:Nat) (v:AV):Prop:=(h.get b).cells[o]? =some v∧live h b
def LDN (h:AH) (n b o:Nat) (cs:List AV):Prop:=((h.get b).cells.drop o).take n=cs∧0 < n∧cs.length=n∧live h b
section
variable{h h0:AH}
theorem Gd {b o j:Nat} {v:AV} {cs:List AV} (a:At h b o cs) (hv:cs[j]? =some v):LD h b (o+j) v:=⟨a.get hv,a.2.1⟩
theorem Xl {b o:Nat} {v:AV} {cs:List AV} (a:At h b o cs) (hv:cs[0]? =some v):LD h b o v:=Gd a hv
theorem Xk {b o i j:Nat} {v:AV} {cs:List AV} (a:At h b o cs) (hv:cs[i+j]? =some v):LD h b (o+i+j) v:=by rw[Nat.add_assoc];exact Gd a hv
theorem KS {b o j n:Nat} {cs cs':List AV} (a:At h b o cs) (n0:0 < n) (hc:(cs.drop j).take n=cs') (hn:cs'.length=n):LDN h n b (o+j) cs':=by
 have a':=(a.drop j).take n
 rw[hc] at a'
 have:=a'.2.2
 rw[hn] at this
 exact⟨this,n0,hn,a'.2.1⟩
theorem amJ {b o n:Nat} {cs cs':List AV} (a:At h b o cs) (n0:0 < n) (hc:cs.take n=cs') (hn:cs'.length=n):LDN h n b o cs':=by simpa using KS (j:=0) a n0 (by simpa using hc) hn
theorem amI {b o i j n:Nat} {cs cs':List AV} (a:At h b o cs) (n0:0 < n) (hc:(cs.drop (i+j)).take n=cs') (hn:cs'.length=n):LDN h n b (o+i+j) cs':=by rw[Nat.add_assoc];exact KS a n0 hc hn
theorem Xt {b o i j:Nat} {v:AV} (x:LD h b (o+i+j) v):LD h b (o+i+j) v:=x
theorem Xu {b o j:Nat} {v:AV} (x:LD h b (o+j) v):LD h b (o+j) v:=x
theorem Xq {b n o i j:Nat} {v:List AV} (x:LDN h n b (o+i+j) v):LDN h n b (o+i+j) v:=x
theorem Xr {b n o j:Nat} {v:List AV} (x:LDN h n b (o+j) v):LDN h n b (o+j) v:=x
def WR (h:AH) (b o:Nat) (xs:List AV) (h':AH):Prop:=mine h b∧o+xs.length≤(h.get b).cells.length∧b < h.n∧h'=h.upd b {h.get b with cells:=splice (h.get b).cells o xs}
structure S0 (cs xs cs':List AV):Prop where
 a:xs.length≤cs.length
 b:xs++cs.drop xs.length=cs'
structure SP (cs:List AV) (o:Nat) (xs cs':List AV):Prop where
 a:o+xs.length≤cs.length
 b:splice cs o xs=cs'
theorem anf {cs:List AV}:S0 cs [] cs:=⟨by simp,by simp⟩
theorem ang {c x:AV} {cs xs cs':List AV} (s:S0 cs xs cs'):S0 (c::cs) (x::xs) (x::cs'):=⟨by have:=s.1;simp;omega,by simp[s.2]⟩
theorem anc {cs xs cs':List AV} (s:S0 cs xs cs'):SP cs 0 xs cs':=⟨by have:=s.1;omega,by simp[splice,s.2]⟩
theorem anb {c:AV} {o:Nat} {cs xs cs':List AV} (s:SP cs o xs cs'):SP (c::cs) (o+1) xs (c::cs'):=by
 obtain⟨h1,rfl⟩:=s
 refine⟨by simp;omega,?_⟩
 unfold splice
 rw[show o+1+xs.length=o+xs.length+1 by omega];simp
structure T0 (n:Nat) (cs cs':List AV):Prop where
 a:cs.take n=cs'
 b:cs'.length=n
structure TK (j n:Nat) (cs cs':List AV):Prop where
 a:(cs.drop j).take n=cs'
 b:cs'.length=n
theorem ana {cs:List AV}:T0 0 cs []:=⟨by simp,rfl⟩
theorem am9 {c:AV} {n:Nat} {cs cs':List AV} (s:T0 n cs cs'):T0 (n+1) (c::cs) (c::cs'):=⟨by simp[s.1],by simp[s.2]⟩
theorem am8 {n:Nat} {cs cs':List AV} (s:T0 n cs cs'):TK 0 n cs cs':=⟨by simpa using s.1,s.2⟩
theorem am7 {c:AV} {j n:Nat} {cs cs':List AV} (s:TK j n cs cs'):TK (j+1) n (c::cs) cs':=⟨by simpa using s.1,s.2⟩
theorem WW {o:Nat} {cs cs' xs:List AV} {es:Nat} (s:SP cs o xs cs'):WR (h.push ⟨cs,es,0⟩) h.n o xs (h.push ⟨cs',es,0⟩):=by
 obtain⟨ho,rfl⟩:=s
 refine⟨by simp[mine],by simpa using ho,by simp,?_⟩
 simp only[DK,if_true,P6]
theorem ldw {b o n:Nat} {cs:List AV} (a:At h b o cs) (n0:0 < n) (hn:cs.length=n):LDN h n b o cs:=by
 subst hn
 exact⟨a.2.2,n0,rfl,a.2.1⟩
theorem ldp {b o n:Nat} {cs cs':List AV} (a:At h b o cs) (n0:0 < n) (t:TK 0 n cs cs'):LDN h n b o cs':=amJ a n0 (by simpa using t.1) t.2
theorem V7 {b o j n:Nat} {cs cs':List AV} (a:At h b o cs) (n0:0 < n) (t:TK j n cs cs'):LDN h n b (o+j) cs':=KS a n0 t.1 t.2
theorem V6 {b o i j n:Nat} {cs cs':List AV} (a:At h b o cs) (n0:0 < n) (t:TK (i+j) n cs cs'):LDN h n b (o+i+j) cs':=amI a n0 t.1 t.2
theorem WU {b o:Nat} {xs:List AV} {h':AH} {k:Blk} (w:WR h b o xs h'):WR (h.push k) b o xs (h'.push k):=by
 obtain⟨w1,w2,w3,rfl⟩:=w
 have e:b≠h.n:=by omega
 refine⟨by simpa[mine,e] using w1,by simpa[e] using w2,by simp;omega,?_⟩
 rw[aiP w3];simp[e]
end
section
variable{α:Type} [Cel α] {P:Program} {h h0 h':AH} {Q:Nat→List AV→AH→Prop} {k:AV→Prog}
theorem yK {b o:Nat} {v:AV} (l:LD h b o v) (hk:(k v).awp P h Q):(Prog.op (.ld1 (.ptr b o)) k).awp P h Q:=pO l.1 l.2 hk
theorem yJ {n b o:Nat} {cs:List AV} (l:LDN h n b o cs) (hk:(k (.agg cs)).awp P h Q):(Prog.op (.ldn n (.ptr b o)) k).awp P h Q:=VB l.1 l.2.1 l.2.2.1 l.2.2.2 hk
theorem pW {n b o:Nat} {x:AV} {xs:List AV} (hx:x.cells? =some xs) (hn:xs.length=n) (w:WR h b o xs h') (hk:(k (.tup [])).awp P h' Q):(Prog.op (.st n (.ptr b o) x) k).awp P h Q:=by
 obtain⟨w1,w2,w3,rfl⟩:=w
 exact rR w1 hx hn (by omega) hk
theorem EC {n b o:Nat} {cs:List AV} {p:Prog} (l:LDN h n b o cs) (hk:p.awp P h Q):(Prog.chk (.ldn n (.ptr b o)) (.agg cs) p).awp P h Q:=by
 refine⟨?_,hk⟩
 have:=yJ (P:=P) (k:=fun v=>.leaf 0 [v]) (Q:=fun t vs h'=>vs=[.agg cs]∧h'=h) l ⟨rfl,rfl⟩
 simp only[Prog.awp,AOp.go,List.cons.injEq,and_true] at this
 simp only[AOp.still,AOp.go,and_true]
 exact this
theorem ED {b o:Nat} {v:AV} {p:Prog} (l:LD h b o v) (hk:p.awp P h Q):(Prog.chk (.ld1 (.ptr b o)) v p).awp P h Q:=by
 refine⟨?_,hk⟩
 have:=yK (P:=P) (k:=fun v=>.leaf 0 [v]) (Q:=fun t vs h'=>vs=[v]∧h'=h) l ⟨rfl,rfl⟩
 simp only[Prog.awp,AOp.go,List.cons.injEq,and_true] at this
 simp only[AOp.still,AOp.go,and_true]
 exact this
theorem gK {v:AV} {xs:List α} {F:List Nat} (r:au h0 v xs F) (hk:(k (.int .i64 xs.length)).awp P h Q):(Prog.op (.len 0 v) k).awp P h Q:=bQ r hk
theorem yR {es n:Nat} {zero cs:List AV} {parts:List (Nat × Nat × AV)} (hc:dK zero parts=some cs) (h1:n * es≤16777216) (h2:cs.length=n * es) (hk:(k (.sl h.n 0 n)).awp P (h.push ⟨cs,es,0⟩) Q):(Prog.op (.bE es n zero parts) k).awp P h Q:=uJ hc h1 h2 hk
theorem K7 {v:AV}:(RV.val v).get h=some v:=rfl
theorem K9 {b o n:Nat} {cs:List AV} (l:LDN h n b o cs):(RV.cn n (.ptr b o)).get h=some (.agg cs):=by
 obtain⟨h1,h0,h3,h2⟩:=l
 have:o+n≤(h.get b).cells.length:=by
  have:=congrArg List.length h1
  simp only[List.length_take,List.length_drop] at this;omega
 have h2:(h.get b).st≠2:=h2
 simp only[RV.get,h2,if_false,this,if_true,h1]
theorem anh {b o:Nat} {v:AV} (l:LD h b o v):(RV.c1 (.ptr b o)).get h=some v:=by
 have h2:(h.get b).st≠2:=l.2
 simp only[RV.get,h2,if_false,l.1]
theorem C9 {o:AOp} {v:AV} {p:Prog} (hk:(Prog.chk o v p).awp P h Q):(Prog.lG (.bool true) true o v p).awp P h Q:=⟨by simpa using hk.1,hk.2⟩
theorem Dc {o:AOp} {v:AV} {p:Prog} (hk:(Prog.chk o v p).awp P h Q):(Prog.lG (.bool false) false o v p).awp P h Q:=⟨by simpa using hk.1,hk.2⟩
theorem Da {o:AOp} {v:AV} {p:Prog} (hk:p.awp P h Q):(Prog.lG (.bool true) false o v p).awp P h Q:=⟨by simp,hk⟩
theorem Db {o:AOp} {v:AV} {p:Prog} (hk:p.awp P h Q):(Prog.lG (.bool false) true o v p).awp P h Q:=⟨by simp,hk⟩
theorem C8 {w:Bool} {o:AOp} {v:AV} {p:Prog} (hk:p.awp P h Q):(Prog.lG (.tup []) w o v p).awp P h Q:=⟨trivial,hk⟩
theorem alH {a b:Bool} (h1:a=b→(k (.bool true)).awp P h Q) (h2: ¬ a=b→(k (.bool false)).awp P h Q):(Prog.op (.bin 2 .eql (.bool a) (.bool b)) k).awp P h Q:=by
 refine alx ?_
 by_cases e:a=b
 ·simpa[e] using h1 e
 ·have:(a == b)=false:=by simpa using e
  rw[this];exact h2 e
theorem alG {a b:Bool} (h1: ¬ a=b→(k (.bool true)).awp P h Q) (h2:a=b→(k (.bool false)).awp P h Q):(Prog.op (.bin 2 .neq (.bool a) (.bool b)) k).awp P h Q:=by
 refine Ew ?_
 by_cases e:a=b
 ·simpa[e] using h2 e
 ·have:(a == b)=false:=by simpa using e
  rw[this];exact h1 e
theorem amh {b w:Bool} {o:AOp} (h1:b=w→(Prog.op o k).awp P h Q) (h2:b= !w→(k (.tup [])).awp P h Q):(Prog.gop (.bool b) w o k).awp P h Q:=by
 simp only[Prog.awp]
 split
 ·rename_i e;exact h1 e
 ·rename_i e;exact h2 (by cases b<;>cases w<;>simp_all)
end
def Bk (h:AH) (b:Nat) (cs:List AV) (es:Nat):Prop:=b < h.n∧h.get b=⟨cs,es,0⟩
section
variable{g h:AH} {b c o n es:Nat} {cs cs' xs:List AV} {k:Blk} {X:List Nat}
theorem iE:Bk (h.push ⟨cs,es,0⟩) h.n cs es:=⟨by simp,by simp⟩
theorem TY (e:b=h.n):Bk (h.push ⟨cs,es,0⟩) b cs es:=by subst e;exact iE
theorem Ua (e:b=h.n):At (h.push ⟨cs,es,0⟩) b 0 cs:=by subst e;exact iF
theorem Kn (e:b=c) (hb:b < h.n):Bk (h.upd c ⟨cs,es,0⟩) b cs es:=by subst e;exact⟨by simpa using hb,by simp⟩
theorem xU (a:Bk h b cs es):Bk (h.push k) b cs es:=by
 obtain⟨h1,h2⟩:=a
 have e:b≠h.n:=by omega
 exact⟨by simp;omega,by simp[e,h2]⟩
theorem kC (hb:b < h.n):Bk (h.upd b ⟨cs,es,0⟩) b cs es:=⟨by simpa using hb,by simp⟩
theorem UZ (a:Bk h b cs es) (hne:b≠c):Bk (h.upd c k) b cs es:=⟨by simpa using a.1,by simp[hne,a.2]⟩
theorem fK (e:Ext g h) (a:Bk g b cs es):Bk h b cs es:=⟨Nat.lt_of_lt_of_le a.1 e.1,by rw[e.2 b a.1];exact a.2⟩
theorem bR (e:Kp g h X) (a:Bk g b cs es) (hX:b ∉ X):Bk h b cs es:=⟨Nat.lt_of_lt_of_le a.1 e.1,by rw[e.2 b a.1 hX];exact a.2⟩
theorem rU (a:Bk h b cs es):At h b 0 cs:=⟨a.1,by simp[live,a.2],by simp[a.2]⟩
theorem U9 (a:At h b o cs) (hne:b≠c):At (h.upd c k) b o cs:=⟨by simpa using a.1,by have:=a.2.1;simpa[live,hne] using this,by have:=a.2.2;simpa[hne] using this⟩
theorem Va (e:Ext g h) (a:At g b o cs):At h b o cs:=a.ext e
theorem VE (e:Kp g h X) (a:At g b o cs) (hX:b ∉ X):At h b o cs:=by
 have:=e.2 b a.1 hX
 exact⟨Nat.lt_of_lt_of_le a.1 e.1,by have h2:=a.2.1;unfold live at h2 ⊢;rw[this];exact h2,by rw[this];exact a.2.2⟩
theorem U7 (hb:b < h.n):At (h.upd b ⟨cs,es,0⟩) b 0 cs:=rU (kC hb)
theorem U8 (e:b=c) (hb:b < h.n):At (h.upd c ⟨cs,es,0⟩) b 0 cs:=rU (Kn e hb)
theorem vI (a:Bk h b cs es) (s:SP cs o xs cs'):WR h b o xs (h.upd b ⟨cs',es,0⟩):=by
 obtain⟨ho,rfl⟩:=s
 refine⟨by simp[mine,a.2],by simpa[a.2] using ho,a.1,by rw[a.2]⟩
end
section
variable{α:Type} [Cel α] {g h:AH} {v:AV} {xs:List α} {F X:List Nat} {b n n0:Nat} {k:Blk}
theorem qK (r:au h v xs F):au (h.push k) v xs F:=r.ext ((Ext.refl h).push k)
theorem jH (r:au h v xs F) (hb:b ∉ F):au (h.upd b k) v xs F:=r.keep fun c hc=>⟨by have:c≠b:=fun e=>hb (e▸hc);simp[this],by simpa using r.lt c hc⟩
theorem uL (e:Ext g h) (r:au g v xs F):au h v xs F:=r.ext e
theorem aI (e:Kp g h X) (r:au g v xs F) (hX:∀ c∈F,c ∉ X):au h v xs F:=r.kp e hX
theorem au.cell (r:au h v xs F):v.cells? =some [v]:=by
 rcases r with⟨rfl,_,_⟩|⟨b,off,F',cs,rfl,_⟩<;>rfl
theorem ak9 (o:Own n0 g F) (hb:b < n0):b ∉ F:=fun hm=>by have:=(o.2 b hm).1;omega
theorem vB (r:au g v xs F) (hb:g.n≤b):b ∉ F:=fun hm=>by have:=r.lt b hm;omega
theorem UR (r:au g v xs F) (o:Own n h X) (hn:g.n≤n):∀ c∈F,c ∉ X:=fun c hc hx=>by have:=r.lt c hc;have:=(o.2 c hx).1;omega
theorem TV (o:Own n g F) (r:au h v xs X) (hn:h.n≤n):∀ c∈F,c ∉ X:=fun c hc hx=>by have:=r.lt c hx;have:=(o.2 c hc).1;omega
def New (n:Nat) (h:AH) (v:AV) (xs:List α) (F:List Nat):Prop:=au h v xs F∧Own n h F
end
def cO (n:Nat) (h:AH) (F:List Nat):Prop:=Own n h F∧∀ b∈F,b < h.n
section
variable{α:Type} [Cel α] {g h:AH} {v:AV} {xs:List α} {F X:List Nat} {b n n0:Nat} {k:Blk}
theorem VY (o:Own n0 h F) (r:au h v xs F) (hn:n≤n0):cO n h F:=⟨o.mono hn fun _ _=>rfl,r.lt⟩
end
section
variable{g h:AH} {F X:List Nat} {b n n0:Nat} {k:Blk}
theorem Ky:cO n h []:=⟨Own.nil,by simp⟩
theorem DL (r:cO n h F):cO n (h.push k) F:=⟨r.1.ext ((Ext.refl h).push k) r.2,fun b hb=>by have:=r.2 b hb;simp;omega⟩
theorem j6 (r:cO n h F) (hb:b ∉ F):cO n (h.upd b k) F:=⟨r.1.mono (Nat.le_refl _) fun c hc=>by have:c≠b:=fun e=>hb (e▸hc);simp[this],fun b hb=>by simpa using r.2 b hb⟩
theorem kg (e:Ext g h) (r:cO n g F):cO n h F:=⟨r.1.ext e r.2,fun b hb=>Nat.lt_of_lt_of_le (r.2 b hb) e.1⟩
theorem bC (e:Kp g h X) (r:cO n g F) (hX:∀ c∈F,c ∉ X):cO n h F:=⟨r.1.mono (Nat.le_refl _) fun c hc=>e.2 c (r.2 c hc) (hX c hc),fun b hb=>Nat.lt_of_lt_of_le (r.2 b hb) e.1⟩
theorem al0 {G:List Nat} {m:Nat} (r:cO n h F) (r':cO m h G) (hn:n≤m) (d:∀ c∈F,c ∉ G):cO n h (F++G):=
 ⟨⟨List.nodup_append.2 ⟨r.1.1,r'.1.1,fun a ha b hb e=>d a ha (e▸hb)⟩,fun b hb=>by
  rcases List.mem_append.1 hb with hb|hb
  ·exact r.1.2 b hb
  ·exact⟨Nat.le_trans hn (r'.1.2 b hb).1,(r'.1.2 b hb).2⟩⟩,fun b hb=>by
  rcases List.mem_append.1 hb with hb|hb
  ·exact r.2 b hb
  ·exact r'.2 b hb⟩
end
theorem ala {b c:Nat} (h: ¬ b=c):b ∉ [c]:=fun hm=>h (List.mem_singleton.1 hm)
theorem oP {b:Nat} {F:List Nat} (h:b ∉ F:=by(first|exact List.not_mem_nil|assumption|exact ak9 (by assumption) aP|exact vB (by assumption) aP|((with_reducible apply ala);(try simp only[aO,aV]);omega))):b ∉ F:=h
theorem aln {b:Nat} {F:List Nat} (h:b ∉ F):∀ c∈F,c ∉ [b]:=fun c hc hx=>h (List.mem_singleton.1 hx▸hc)
theorem iw {F X:List Nat} (h:∀ c∈F,c ∉ X:=by(first|exact fun _ h=>absurd h List.not_mem_nil|exact UR (by assumption) (by assumption) aP|exact TV (by assumption) (by assumption) aP|assumption|exact aln oP)):∀ c∈F,c ∉ X:=h
theorem bA {h:AH} {b:Nat} {cs:List AV} {es:Nat} (a:Bk h b cs es:=by(repeat(first|assumption|with_reducible exact iE|((with_reducible apply TY);(simp only[aO,aV]<;>fail))|with_reducible apply xU|((with_reducible apply kC);exact aP)|((with_reducible apply Kn);(first|rfl|(simp only[aO,aV]<;>fail));exact aP)|with_reducible apply UZ|((with_reducible apply fK);assumption)|((with_reducible apply bR);assumption)|exact oP|exact aP))):Bk h b cs es:=a
theorem fB {h:AH} {b o:Nat} {cs:List AV} (a:At h b o cs:=by(repeat(first|assumption|exact rU (by assumption)|with_reducible exact iF|((with_reducible apply Ua);(simp only[aO,aV]<;>fail))|((with_reducible apply U7);exact aP)|((with_reducible apply U8);(first|rfl|(simp only[aO,aV]<;>fail));exact aP)|with_reducible apply At.push|with_reducible apply U9|((with_reducible apply Va);assumption)|((with_reducible apply VE);assumption)|exact At.toExt (by assumption) aG|exact oP|exact aP))):At h b o cs:=a
theorem ah {α:Type} [Cel α] {h:AH} {v:AV} {xs:List α} {F:List Nat} (r:au h v xs F:=by(repeat(first|assumption|exact au.aF|with_reducible apply qK|with_reducible apply jH|((with_reducible apply uL);assumption)|((with_reducible apply aI);assumption)|exact au.ext (by assumption) aG|exact oP|exact iw))):au h v xs F:=r
theorem bJ {n:Nat} {h:AH} {F:List Nat} (r:cO n h F:=by(repeat(first|exact Ky|exact VY (by assumption) (by assumption) aP|with_reducible apply DL|with_reducible apply j6|((with_reducible apply kg);assumption)|((with_reducible apply bC);assumption)|exact oP|exact iw))):Own n h F:=r.1
theorem dB {cs xs cs':List AV} {o:Nat} (s:SP cs o xs cs':=by(repeat(first|apply anc|apply anb|exact anf|apply ang))):SP cs o xs cs':=s
theorem uX {j n:Nat} {cs cs':List AV} (s:TK j n cs cs':=by(repeat(first|apply am8|apply am7|exact ana|apply am9))):TK j n cs cs':=s
theorem yu {h:AH} {b o:Nat} {v:AV} (l:LD h b o v:=by(first|((with_reducible apply Xt);exact Xk fB (by rfl))|((with_reducible apply Xu);exact Gd fB (by rfl))|exact Xl fB (by rfl))):LD h b o v:=l
theorem xR {h:AH} {n b o:Nat} {cs:List AV} (l:LDN h n b o cs:=by(first|((with_reducible apply Xq);exact V6 fB (by decide) uX)|((with_reducible apply Xr);exact V7 fB (by decide) uX)|exact ldw fB (by decide) (by rfl)|exact ldp fB (by decide) uX)):LDN h n b o cs:=l
theorem Ub {h h':AH} {b o:Nat} {xs:List AV} (w:WR h b o xs h':=by(repeat(first|exact WW dB|with_reducible apply WU|exact vI bA dB))):WR h b o xs h':=w
theorem gI {h:AH} {r:RV} {v:AV} (e:r.get h=some v:=by(first|with_reducible exact K7|((with_reducible apply anh);exact yu)|((with_reducible apply K9);exact xR))):r.get h=some v:=e
theorem amf {cs:List AV}:dK cs []=some cs:=rfl
theorem alA {cs cs' out xs:List AV} {off size:Nat} {x:AV} {rest:List (Nat × Nat × AV)} (hx:x.cells? =some xs) (hn:xs.length=size) (s:SP cs off xs cs') (h:dK cs' rest=some out):dK cs ((off,size,x)::rest)=some out:=by
 obtain⟨s1,rfl⟩:=s
 subst hn
 simp only[dK,hx]
 rw[if_pos ⟨trivial,s1⟩];exact h
theorem oZ {cs out:List AV} {ps:List (Nat × Nat × AV)} (h:dK cs ps=some out:=by(repeat(first|with_reducible exact amf|with_reducible apply alA|exact dB|rfl|exact au.cell (by assumption)))):dK cs ps=some out:=h
theorem it {A B C:Prop} (f:B→A) (g:C→B):C→A:=fun c=>f (g c)
section
variable{B:Prop} {P:Program} {h:AH} {Q:Nat→List AV→AH→Prop} {k:AV→Prog}
theorem EW {a:AV} (y:B→(Prog.op (.ld1 a) k).awp P h Q):B→(Prog.op (.ld1 a) k).awp P h Q:=y
theorem EU {n:Nat} {a:AV} (y:B→(Prog.op (.ldn n a) k).awp P h Q):B→(Prog.op (.ldn n a) k).awp P h Q:=y
theorem ET {n:Nat} {a:AV} (y:B→(Prog.op (.len n a) k).awp P h Q):B→(Prog.op (.len n a) k).awp P h Q:=y
theorem EY {a:AV} (y:B→(Prog.op (.box a) k).awp P h Q):B→(Prog.op (.box a) k).awp P h Q:=y
theorem FN {n:Nat} {a:AV} {x:AV} (y:B→(Prog.op (.st n a x) k).awp P h Q):B→(Prog.op (.st n a x) k).awp P h Q:=y
theorem EX {n:Nat} {a:AV} (y:B→(Prog.op (.ext a n) k).awp P h Q):B→(Prog.op (.ext a n) k).awp P h Q:=y
theorem El {n:Nat} {a:AV} (y:B→(Prog.op (.wh n a) k).awp P h Q):B→(Prog.op (.wh n a) k).awp P h Q:=y
theorem DU {z:List AV} {ps:List (Nat × Nat × AV)} (y:B→(Prog.op (.build z ps) k).awp P h Q):B→(Prog.op (.build z ps) k).awp P h Q:=y
theorem Dl {n:Nat} {j:Nat} {z:List AV} {ps:List (Nat × Nat × AV)} (y:B→(Prog.op (.bE n j z ps) k).awp P h Q):B→(Prog.op (.bE n j z ps) k).awp P h Q:=y
theorem Ej {a x:AV} (y:B→(Prog.op (.ig a x) k).awp P h Q):B→(Prog.op (.ig a x) k).awp P h Q:=y
theorem Kk {r:RV} (y:B→(Prog.fin [r]).awp P h Q):B→(Prog.fin [r]).awp P h Q:=y
theorem Kj {r r2:RV} (y:B→(Prog.fin [r,r2]).awp P h Q):B→(Prog.fin [r,r2]).awp P h Q:=y
theorem Ki {r r2 r3:RV} (y:B→(Prog.fin [r,r2,r3]).awp P h Q):B→(Prog.fin [r,r2,r3]).awp P h Q:=y
theorem Em {n:Nat} {a v:AV} {p:Prog} (y:B→(Prog.chk (.ldn n a) v p).awp P h Q):B→(Prog.chk (.ldn n a) v p).awp P h Q:=y
theorem En {a v:AV} {p:Prog} (y:B→(Prog.chk (.ld1 a) v p).awp P h Q):B→(Prog.chk (.ld1 a) v p).awp P h Q:=y
theorem EZ {n:Nat} {a x:AV} (y:B→(Prog.op (.bin n .add a x) k).awp P h Q):B→(Prog.op (.bin n .add a x) k).awp P h Q:=y
theorem EP {n:Nat} {a x:AV} (y:B→(Prog.op (.bin n .sub a x) k).awp P h Q):B→(Prog.op (.bin n .sub a x) k).awp P h Q:=y
theorem ES {n:Nat} {a x:AV} (y:B→(Prog.op (.bin n .quo a x) k).awp P h Q):B→(Prog.op (.bin n .quo a x) k).awp P h Q:=y
theorem Fp {a b:Int} (ha:0≤a) (hb:0 < b) (h2:a≤9223372036854775807) (hk:(k (.int .i64 (a / b))).awp P h Q):(Prog.op (.bin 0 .quo (.int .i64 a) (.int .i64 b)) k).awp P h Q:=by
 refine U3 (by omega) ?_
 have h0:0≤a / b:=Int.ediv_nonneg ha (by omega)
 have h3:a / b≤a:=Int.ediv_le_self _ ha
 rw[Int.tdiv_eq_ediv_of_nonneg ha,iA (by omega) (by omega)];exact hk
theorem ER {n:Nat} {a x:AV} (y:B→(Prog.op (.bin n .rem a x) k).awp P h Q):B→(Prog.op (.bin n .rem a x) k).awp P h Q:=y
end
theorem Vp {A B:Prop} (s:A→B:=by(first|(with_reducible first|exact dH|exact dw|exact FY|exact rC|exact jI|exact Et|exact dF|exact Dp|exact Dq|exact Es|exact uV|exact DY|exact vC|exact Dt|exact Dw|exact Du|exact Dv|exact Dr|exact CZ|exact dI|exact Ev|exact uU|exact kK|exact iQ|exact D7|exact D5|exact EB|exact EA|exact Fu|exact Fq|exact D6|exact C9|exact Dc|exact Da|exact Db|exact C8)|((with_reducible apply EW);first|exact yK yu)|((with_reducible apply EU);first|exact yJ xR)|((with_reducible apply ET);first|exact gK (by assumption))|((with_reducible apply EY);first|exact kV (by rfl))|((with_reducible apply FN);first|exact pW (by first|rfl|exact au.cell (by assumption)) (by rfl) Ub)|((with_reducible apply EX);first|exact E9 (by rfl))|((with_reducible apply El);first|exact Eu (by rfl))|((with_reducible apply EZ);first|exact fG (by omega)|exact jl (by omega) (by omega))|((with_reducible apply EP);exact Er (by omega) (by omega))|((with_reducible apply ER);exact nD (by decide))|((with_reducible apply ES);exact Fp (by omega) (by decide) (by omega))|((with_reducible apply DU);first|exact DZ oZ)|((with_reducible apply Dl);first|exact yR oZ (by decide) (by rfl))|((with_reducible apply Em);exact EC xR)|((with_reducible apply En);exact ED yu)|((with_reducible apply Ej);exact sx1 (by assumption))|((with_reducible apply Kk);exact J8 gI)|((with_reducible apply Kj);exact xV gI gI)|((with_reducible apply Ki);exact J7 gI gI gI)|(exact kJ (by decide))|(exact kP (by decide)))):A→B:=s
theorem vs {A B:Prop} (hb:B) (s:B→A:=by((apply it;exact Vp);(repeat(apply it;exact Vp));exact fun x=>x)):A:=s hb
theorem br {A B C:Prop} (b:B) (c:C) (s:B→C→A:=by(with_reducible first|exact fq|exact amc|exact KG|exact amd|exact vF|exact vD|exact als|exact Kq|exact alH|exact alG|exact vE|exact amh)):A:=s b c
theorem ix {α:Type} [Cel α] {P:Program} {h h0:AH} {Q:Nat→List AV→AH→Prop} {k:AV→Prog} {v:AV} {xs:List α} {F:List Nat} {es i:Nat} {q:IntKind} {x:α} (hk:∀ b o cs Fi,At h0 b o cs→Cel.rep h0 x cs Fi→(∀ y∈Fi,y∈F)→(k (.ptr b o)).awp P h Q) (r:au h0 v xs F:=by assumption) (hx:xs[i]? =some x:=by assumption) (hw:es=Cel.w α:=by rfl):(Prog.op (.idx es v (.int q i)) k).awp P h Q:=bS r hx hw hk
theorem ixi {α:Type} [Cel α] {P:Program} {h h0:AH} {Q:Nat→List AV→AH→Prop} {k:AV→Prog} {v:AV} {xs:List α} {F:List Nat} {es:Nat} {i:Int} {q:IntKind} {x:α} (hk:∀ b o cs Fi,At h0 b o cs→Cel.rep h0 x cs Fi→(∀ y∈Fi,y∈F)→(k (.ptr b o)).awp P h Q) (r:au h0 v xs F:=by assumption) (hi:0≤i:=by omega) (hx:xs[i.toNat]? =some x:=by assumption) (hw:es=Cel.w α:=by rfl):(Prog.op (.idx es v (.int q i)) k).awp P h Q:=qV r hi hx hw hk
end Go.Ab
end
section
set_option linter.unusedSimpArgs false
set_option linter.unusedVariables false
namespace Go.Ab
open Go.RowKit
inductive Pol where
 |mk (kind n:Int) (key text:ByteArray) (l:List Pol)
namespace Pol
def kind:Pol→Int| .mk k _ _ _ _=>k
def n:Pol→Int| .mk _ n _ _ _=>n
def key:Pol→ByteArray| .mk _ _ k _ _=>k
def text:Pol→ByteArray| .mk _ _ _ t _=>t
def l:Pol→List Pol| .mk _ _ _ _ l=>l
def cs (x:Pol) (v:AV):List AV:=[.int .i64 x.kind,.int .i64 x.n,.str x.key,.str x.text,v]
end Pol
mutual
def Pol.lu (h:AH):Pol→List AV→List Nat→Prop
 | .mk k n s t l,cs,F=>∃ v,cs=[.int .i64 k,.int .i64 n,.str s,.str t,v]∧ShR h 5 v l.length (Pol.jP h l) F
def Pol.jP (h:AH):List Pol→List AV→List Nat→Prop
 |[],cs,F=>cs=[]∧F=[]
 |p::ps,cs,F=>∃ c1 c2 F1 F2,cs=c1++c2∧F=F1++F2∧Pol.lu h p c1 F1∧Pol.jP h ps c2 F2
end
mutual
def Pol.okP:Pol→Prop
 | .mk k n s t l=>rng k∧rng n∧s.size≤maxLen∧t.size≤maxLen∧Pol.yU l
def Pol.yU:List Pol→Prop
 |[]=>True
 |p::ps=>Pol.okP p∧Pol.yU ps
end
theorem Pol.len_ {h:AH}:∀ {x:Pol} {cs:List AV} {F:List Nat},Pol.lu h x cs F→cs.length=5
 | .mk k n s t l,cs,F,r=>by unfold Pol.lu at r;obtain⟨v,rfl,_⟩:=r;rfl
theorem ShR.lt {h:AH} {w n:Nat} {v:AV} {R:List AV→List Nat→Prop} {F:List Nat} (r:ShR h w v n R F) (hR:∀ cs F,R cs F→∀ b∈F,b < h.n):∀ b∈F,b < h.n:=by
 rcases r with⟨_,_,rfl⟩|⟨b,off,F',cs,_,rfl,h1,_,_,_,_,_,h2⟩
 ·simp
 ·intro x hx
  rcases List.mem_cons.1 hx with e|e
  ·rw[e];exact h1
  ·exact hR _ _ h2 x e
theorem ShR.keep {h h':AH} {w n:Nat} {v:AV} {R R':List AV→List Nat→Prop} {F:List Nat} (r:ShR h w v n R F) (k:∀ b∈F,h'.get b=h.get b∧b < h'.n) (hR:∀ cs F',(∀ b∈F',b∈F)→R cs F'→R' cs F'):ShR h' w v n R' F:=by
 rcases r with g|⟨b,off,F',cs,e1,rfl,h1,h2,h3,h4,h5,h6,h7⟩
 ·exact .inl g
 ·have kb:=k b (by simp)
  refine .inr ⟨b,off,F',cs,e1,rfl,kb.2,?_,?_,?_,h5,?_,hR _ _ (fun x hx=>by simp[hx]) h7⟩
  ·unfold live;rw[kb.1];exact h2
  ·rw[kb.1];exact h3
  ·rw[kb.1];exact h4
  ·rw[kb.1];exact h6
mutual
theorem Pol.lt_ {h:AH}:∀ (x:Pol) (cs:List AV) (F:List Nat),Pol.lu h x cs F→∀ b∈F,b < h.n
 | .mk k n s t l,cs,F,r=>by
  unfold Pol.lu at r;obtain⟨v,rfl,r⟩:=r
  exact r.lt (Pol.Xi l)
theorem Pol.Xi {h:AH}:∀ (x:List Pol) (cs:List AV) (F:List Nat),Pol.jP h x cs F→∀ b∈F,b < h.n
 |[],cs,F,r=>by unfold Pol.jP at r;obtain⟨_,rfl⟩:=r;simp
 |p::ps,cs,F,r=>by
  unfold Pol.jP at r
  obtain⟨c1,c2,F1,F2,rfl,rfl,r1,r2⟩:=r
  intro b hb
  rcases List.mem_append.1 hb with hb|hb
  ·exact Pol.lt_ p c1 F1 r1 b hb
  ·exact Pol.Xi ps c2 F2 r2 b hb
end
mutual
theorem Pol.V8 {h h':AH}:∀ (x:Pol) (cs:List AV) (F:List Nat),Pol.lu h x cs F→(∀ b∈F,h'.get b=h.get b∧b < h'.n)→Pol.lu h' x cs F
 | .mk k n s t l,cs,F,r,hk=>by
  unfold Pol.lu at r ⊢;obtain⟨v,rfl,r⟩:=r
  exact⟨v,rfl,r.keep hk fun cs F' hs r=>Pol.Vu l cs F' r fun b hb=>hk b (hs b hb)⟩
theorem Pol.Vu {h h':AH}:∀ (x:List Pol) (cs:List AV) (F:List Nat),Pol.jP h x cs F→(∀ b∈F,h'.get b=h.get b∧b < h'.n)→Pol.jP h' x cs F
 |[],cs,F,r,hk=>by unfold Pol.jP at r ⊢;exact r
 |p::ps,cs,F,r,hk=>by
  unfold Pol.jP at r ⊢
  obtain⟨c1,c2,F1,F2,rfl,rfl,r1,r2⟩:=r
  exact⟨c1,c2,F1,F2,rfl,rfl,Pol.V8 p c1 F1 r1 fun b hb=>hk b (List.mem_append_left _ hb),Pol.Vu ps c2 F2 r2 fun b hb=>hk b (List.mem_append_right _ hb)⟩
end
instance:Cel Pol where
 w:=5
 ok:=Pol.okP
 rep:=Pol.lu
 pos:=by decide
 len:=fun r=>Pol.len_ r
 lt:=fun r=>Pol.lt_ _ _ _ r
 keep:=fun r k=>Pol.V8 _ _ _ r k
theorem Pol.JZ {h:AH}:∀ {l:List Pol} {cs:List AV} {F:List Nat},bO h l cs F↔Pol.jP h l cs F
 |[],cs,F=>by simp[bO,Pol.jP]
 |p::ps,cs,F=>by
  simp only[bO,Pol.jP]
  constructor
  ·rintro⟨c1,c2,F1,F2,e1,e2,r1,r2⟩;exact⟨c1,c2,F1,F2,e1,e2,r1,Pol.JZ.1 r2⟩
  ·rintro⟨c1,c2,F1,F2,e1,e2,r1,r2⟩;exact⟨c1,c2,F1,F2,e1,e2,r1,Pol.JZ.2 r2⟩
theorem Pol.bX {h:AH} {x:Pol} {cs:List AV} {F:List Nat}:Cel.rep h x cs F↔∃ v,cs=x.cs v∧au h v x.l F:=by
 cases x with
 |mk k n s t l=>
  have e:bO h l=Pol.jP h l:=by funext cs F;exact propext Pol.JZ
  show Pol.lu h (.mk k n s t l) cs F↔∃ v,cs=(Pol.mk k n s t l).cs v∧ShR h 5 v l.length (bO h l) F
  rw[e]
  unfold Pol.lu
  rfl
theorem Pol.Ef:∀ {l:List Pol},Pol.yU l↔∀ x∈l,Cel.ok x
 |[]=>by simp[Pol.yU]
 |p::ps=>by
  simp only[Pol.yU,List.mem_cons,forall_eq_or_imp]
  exact and_congr Iff.rfl Pol.Ef
theorem al5 {h:AH} {a b:Int} {c d:ByteArray} {v:AV} {l:List Pol} {F:List Nat} (ka:Cel.ok a) (kb:Cel.ok b) (kc:Cel.ok c) (kd:Cel.ok d) (r:au h v l F) (kl:Cel.ok l):∃ x:Pol,Cel.rep h x ([.int .i64 a]++([.int .i64 b]++([.str c]++([.str d]++([v]++[]))))) ([]++([]++([]++([]++(F++[])))))∧Cel.ok x:=
 ⟨.mk a b c d l,Pol.bX.2 ⟨v,rfl,by simpa[Pol.l] using r⟩,ka,kb,kc,kd,Pol.Ef.2 kl⟩
structure Attr where
 key:ByteArray
 num:Bool
 n:Int
 text:ByteArray
def Attr.cs (x:Attr):List AV:=[.str x.key,.bool x.num,.int .i64 x.n,.str x.text]
instance:Cel Attr where
 w:=4
 ok:=fun x=>Cel.ok x.key∧Cel.ok x.n∧Cel.ok x.text
 rep:=fun h x cs F=>cs=x.cs∧F=[]
 pos:=by decide
 len:=by rintro h x cs F ⟨rfl,rfl⟩;rfl
 lt:=by rintro h x cs F ⟨rfl,rfl⟩;simp
 keep:=by rintro h h' x cs F r _;exact r
instance:Flat Attr where
 toCel:=inferInstance
 enc:=Attr.cs
 bX:=Iff.rfl
theorem alf {h:AH} {a0:ByteArray} {a1:Bool} {a2:Int} {a3:ByteArray} (k0:Cel.ok a0) (k1:Cel.ok a1) (k2:Cel.ok a2) (k3:Cel.ok a3):∃ x:Attr,Cel.rep h x ([.str a0]++([.bool a1]++([.int .i64 a2]++([.str a3]++[])))) ([]++([]++([]++([]++[]))))∧Cel.ok x:=by
 exact⟨⟨a0,a1,a2,a3⟩,⟨rfl,rfl⟩,⟨k0,k2,k3⟩⟩
structure Span where
 trace:Int
 id:Int
 start:Int
 fin:Int
 err:Bool
 attrs:List Attr
def Span.cs (x:Span) (v0:AV):List AV:=[.int .i64 x.trace,.int .i64 x.id,.int .i64 x.start,.int .i64 x.fin,.bool x.err,v0]
instance:Cel Span where
 w:=6
 ok:=fun x=>Cel.ok x.trace∧Cel.ok x.id∧Cel.ok x.start∧Cel.ok x.fin∧Cel.ok x.attrs
 rep:=fun h x cs F=>∃ v,cs=x.cs v∧au h v x.attrs F
 pos:=by decide
 len:=by rintro h x cs F ⟨v,rfl,_⟩;rfl
 lt:=by rintro h x cs F ⟨v,rfl,r⟩;exact r.lt
 keep:=by rintro h h' x cs F ⟨v,rfl,r⟩ k;exact⟨v,rfl,r.keep k⟩
theorem alc {h:AH} {a0:Int} {a1:Int} {a2:Int} {a3:Int} {a4:Bool} {a5:List Attr} {v5:AV} {F5:List Nat} (k0:Cel.ok a0) (k1:Cel.ok a1) (k2:Cel.ok a2) (k3:Cel.ok a3) (k4:Cel.ok a4) (r5:au h v5 a5 F5) (k5:Cel.ok a5):∃ x:Span,Cel.rep h x ([.int .i64 a0]++([.int .i64 a1]++([.int .i64 a2]++([.int .i64 a3]++([.bool a4]++([v5]++[])))))) ([]++([]++([]++([]++([]++(F5++[]))))))∧Cel.ok x:=by
 exact⟨⟨a0,a1,a2,a3,a4,a5⟩,⟨v5,rfl,by simpa using r5⟩,⟨k0,k1,k2,k3,k5⟩⟩
structure Bucket where
 rate:Int
 aW:Int
 tokens:Int
 at_:Int
def Bucket.cs (x:Bucket):List AV:=[.int .i64 x.rate,.int .i64 x.aW,.int .i64 x.tokens,.int .i64 x.at_]
instance:Cel Bucket where
 w:=4
 ok:=fun x=>Cel.ok x.rate∧Cel.ok x.aW∧Cel.ok x.tokens∧Cel.ok x.at_
 rep:=fun h x cs F=>cs=x.cs∧F=[]
 pos:=by decide
 len:=by rintro h x cs F ⟨rfl,rfl⟩;rfl
 lt:=by rintro h x cs F ⟨rfl,rfl⟩;simp
 keep:=by rintro h h' x cs F r _;exact r
instance:Flat Bucket where
 toCel:=inferInstance
 enc:=Bucket.cs
 bX:=Iff.rfl
theorem ajU {h:AH} {a0:Int} {a1:Int} {a2:Int} {a3:Int} (k0:Cel.ok a0) (k1:Cel.ok a1) (k2:Cel.ok a2) (k3:Cel.ok a3):∃ x:Bucket,Cel.rep h x ([.int .i64 a0]++([.int .i64 a1]++([.int .i64 a2]++([.int .i64 a3]++[])))) ([]++([]++([]++([]++[]))))∧Cel.ok x:=by
 exact⟨⟨a0,a1,a2,a3⟩,⟨rfl,rfl⟩,⟨k0,k1,k2,k3⟩⟩
structure Timer where
 id:Int
 trace:Int
 at_:Int
def Timer.cs (x:Timer):List AV:=[.int .i64 x.id,.int .i64 x.trace,.int .i64 x.at_]
instance:Cel Timer where
 w:=3
 ok:=fun x=>Cel.ok x.id∧Cel.ok x.trace∧Cel.ok x.at_
 rep:=fun h x cs F=>cs=x.cs∧F=[]
 pos:=by decide
 len:=by rintro h x cs F ⟨rfl,rfl⟩;rfl
 lt:=by rintro h x cs F ⟨rfl,rfl⟩;simp
 keep:=by rintro h h' x cs F r _;exact r
instance:Flat Timer where
 toCel:=inferInstance
 enc:=Timer.cs
 bX:=Iff.rfl
theorem akt {h:AH} {a0:Int} {a1:Int} {a2:Int} (k0:Cel.ok a0) (k1:Cel.ok a1) (k2:Cel.ok a2):∃ x:Timer,Cel.rep h x ([.int .i64 a0]++([.int .i64 a1]++([.int .i64 a2]++[]))) ([]++([]++([]++[])))∧Cel.ok x:=by
 exact⟨⟨a0,a1,a2⟩,⟨rfl,rfl⟩,⟨k0,k1,k2⟩⟩
structure dN where
 now:Int
 near:List (List Timer)
 far:List (List Timer)
 rest:List Timer
def dN.cs (x:dN) (v0 v1 v2:AV):List AV:=[.int .i64 x.now,v0,v1,v2]
instance:Cel dN where
 w:=4
 ok:=fun x=>Cel.ok x.now∧Cel.ok x.near∧Cel.ok x.far∧Cel.ok x.rest
 rep:=fun h x cs F=>∃ v0 v1 v2 F0 F1 F2,cs=x.cs v0 v1 v2∧F=F0++(F1++(F2))∧au h v0 x.near F0∧au h v1 x.far F1∧au h v2 x.rest F2
 pos:=by decide
 len:=by rintro h x cs F ⟨v0,v1,v2,F0,F1,F2,rfl,rfl,r0,r1,r2⟩;rfl
 lt:=by rintro h x cs F ⟨v0,v1,v2,F0,F1,F2,rfl,rfl,r0,r1,r2⟩;intro b hb;rcases List.mem_append.1 hb with hb|hb;exact r0.lt b hb;rcases List.mem_append.1 hb with hb|hb;exact r1.lt b hb;exact r2.lt b hb
 keep:=by rintro h h' x cs F ⟨v0,v1,v2,F0,F1,F2,rfl,rfl,r0,r1,r2⟩ k;exact⟨_,_,_,_,_,_,rfl,rfl,r0.keep fun b hb=>k b (List.mem_append_left _ hb),r1.keep fun b hb=>k b (List.mem_append_right _ (List.mem_append_left _ hb)),r2.keep fun b hb=>k b (List.mem_append_right _ (List.mem_append_right _ (hb)))⟩
theorem akr {h:AH} {a0:Int} {a1:List (List Timer)} {v1:AV} {F1:List Nat} {a2:List (List Timer)} {v2:AV} {F2:List Nat} {a3:List Timer} {v3:AV} {F3:List Nat} (k0:Cel.ok a0) (r1:au h v1 a1 F1) (k1:Cel.ok a1) (r2:au h v2 a2 F2) (k2:Cel.ok a2) (r3:au h v3 a3 F3) (k3:Cel.ok a3):∃ x:dN,Cel.rep h x ([.int .i64 a0]++([v1]++([v2]++([v3]++[])))) ([]++(F1++(F2++(F3++[]))))∧Cel.ok x:=by
 exact⟨⟨a0,a1,a2,a3⟩,⟨v1,v2,v3,F1,F2,F3,rfl,by simp,r1,r2,r3⟩,⟨k0,k1,k2,k3⟩⟩
structure Trail where
 id:Int
 stamp:Int
 first:Int
 spans:List Span
def Trail.cs (x:Trail) (v0:AV):List AV:=[.int .i64 x.id,.int .i64 x.stamp,.int .i64 x.first,v0]
instance:Cel Trail where
 w:=4
 ok:=fun x=>Cel.ok x.id∧Cel.ok x.stamp∧Cel.ok x.first∧Cel.ok x.spans
 rep:=fun h x cs F=>∃ v,cs=x.cs v∧au h v x.spans F
 pos:=by decide
 len:=by rintro h x cs F ⟨v,rfl,_⟩;rfl
 lt:=by rintro h x cs F ⟨v,rfl,r⟩;exact r.lt
 keep:=by rintro h h' x cs F ⟨v,rfl,r⟩ k;exact⟨v,rfl,r.keep k⟩
theorem aks {h:AH} {a0:Int} {a1:Int} {a2:Int} {a3:List Span} {v3:AV} {F3:List Nat} (k0:Cel.ok a0) (k1:Cel.ok a1) (k2:Cel.ok a2) (r3:au h v3 a3 F3) (k3:Cel.ok a3):∃ x:Trail,Cel.rep h x ([.int .i64 a0]++([.int .i64 a1]++([.int .i64 a2]++([v3]++[])))) ([]++([]++([]++(F3++[]))))∧Cel.ok x:=by
 exact⟨⟨a0,a1,a2,a3⟩,⟨v3,rfl,by simpa using r3⟩,⟨k0,k1,k2,k3⟩⟩
structure aU where
 held:Int
 l:List Trail
def aU.cs (x:aU) (v0:AV):List AV:=[.int .i64 x.held,v0]
instance:Cel aU where
 w:=2
 ok:=fun x=>Cel.ok x.held∧Cel.ok x.l
 rep:=fun h x cs F=>∃ v,cs=x.cs v∧au h v x.l F
 pos:=by decide
 len:=by rintro h x cs F ⟨v,rfl,_⟩;rfl
 lt:=by rintro h x cs F ⟨v,rfl,r⟩;exact r.lt
 keep:=by rintro h h' x cs F ⟨v,rfl,r⟩ k;exact⟨v,rfl,r.keep k⟩
theorem ajT {h:AH} {a0:Int} {a1:List Trail} {v1:AV} {F1:List Nat} (k0:Cel.ok a0) (r1:au h v1 a1 F1) (k1:Cel.ok a1):∃ x:aU,Cel.rep h x ([.int .i64 a0]++([v1]++[])) ([]++(F1++[]))∧Cel.ok x:=by
 exact⟨⟨a0,a1⟩,⟨v1,rfl,by simpa using r1⟩,⟨k0,k1⟩⟩
structure fF where
 bZ:Int
 wait:Int
 budget:Int
 cache:Int
 queue:Int
 rate:Int
 aW:Int
 rule:Pol
def fF.cs (x:fF) (v0:AV):List AV:=[.int .i64 x.bZ,.int .i64 x.wait,.int .i64 x.budget,.int .i64 x.cache,.int .i64 x.queue,.int .i64 x.rate,.int .i64 x.aW,.int .i64 x.rule.kind,.int .i64 x.rule.n,.str x.rule.key,.str x.rule.text,v0]
instance:Cel fF where
 w:=12
 ok:=fun x=>Cel.ok x.bZ∧Cel.ok x.wait∧Cel.ok x.budget∧Cel.ok x.cache∧Cel.ok x.queue∧Cel.ok x.rate∧Cel.ok x.aW∧Cel.ok x.rule
 rep:=fun h x cs F=>∃ v,cs=x.cs v∧au h v x.rule.l F
 pos:=by decide
 len:=by rintro h x cs F ⟨v,rfl,_⟩;rfl
 lt:=by rintro h x cs F ⟨v,rfl,r⟩;exact r.lt
 keep:=by rintro h h' x cs F ⟨v,rfl,r⟩ k;exact⟨v,rfl,r.keep k⟩
theorem ale {h:AH} {a0:Int} {a1:Int} {a2:Int} {a3:Int} {a4:Int} {a5:Int} {a6:Int} {a7:Pol} {c7:List AV} {F7:List Nat} (k0:Cel.ok a0) (k1:Cel.ok a1) (k2:Cel.ok a2) (k3:Cel.ok a3) (k4:Cel.ok a4) (k5:Cel.ok a5) (k6:Cel.ok a6) (r7:Cel.rep h a7 c7 F7) (k7:Cel.ok a7):∃ x:fF,Cel.rep h x ([.int .i64 a0]++([.int .i64 a1]++([.int .i64 a2]++([.int .i64 a3]++([.int .i64 a4]++([.int .i64 a5]++([.int .i64 a6]++(c7++[])))))))) ([]++([]++([]++([]++([]++([]++([]++(F7++[]))))))))∧Cel.ok x:=by
 obtain⟨w7,rfl,q7⟩:=Pol.bX.1 r7
 exact⟨⟨a0,a1,a2,a3,a4,a5,a6,a7⟩,⟨w7,rfl,by simpa using q7⟩,⟨k0,k1,k2,k3,k4,k5,k6,k7⟩⟩
structure Itm where
 stamp:Int
 s:Span
def Itm.cs (x:Itm) (v0:AV):List AV:=[.int .i64 x.stamp,.int .i64 x.s.trace,.int .i64 x.s.id,.int .i64 x.s.start,.int .i64 x.s.fin,.bool x.s.err,v0]
instance:Cel Itm where
 w:=7
 ok:=fun x=>Cel.ok x.stamp∧Cel.ok x.s
 rep:=fun h x cs F=>∃ v,cs=x.cs v∧au h v x.s.attrs F
 pos:=by decide
 len:=by rintro h x cs F ⟨v,rfl,_⟩;rfl
 lt:=by rintro h x cs F ⟨v,rfl,r⟩;exact r.lt
 keep:=by rintro h h' x cs F ⟨v,rfl,r⟩ k;exact⟨v,rfl,r.keep k⟩
theorem al6 {h:AH} {a0:Int} {a1:Span} {c1:List AV} {F1:List Nat} (k0:Cel.ok a0) (r1:Cel.rep h a1 c1 F1) (k1:Cel.ok a1):∃ x:Itm,Cel.rep h x ([.int .i64 a0]++(c1++[])) ([]++(F1++[]))∧Cel.ok x:=by
 obtain⟨w1,rfl,q1⟩:=r1
 exact⟨⟨a0,a1⟩,⟨w1,rfl,by simpa using q1⟩,⟨k0,k1⟩⟩
structure Task where
 op:Int
 pc:Int
 s:Span
 trace:Int
 stamp:Int
 hand:List Itm
 h:Int
def Task.cs (x:Task) (v0 v1:AV):List AV:=[.int .i64 x.op,.int .i64 x.pc,.int .i64 x.s.trace,.int .i64 x.s.id,.int .i64 x.s.start,.int .i64 x.s.fin,.bool x.s.err,v0,.int .i64 x.trace,.int .i64 x.stamp,v1,.int .i64 x.h]
instance:Cel Task where
 w:=12
 ok:=fun x=>Cel.ok x.op∧Cel.ok x.pc∧Cel.ok x.s∧Cel.ok x.trace∧Cel.ok x.stamp∧Cel.ok x.hand∧Cel.ok x.h
 rep:=fun h x cs F=>∃ v0 v1 F0 F1,cs=x.cs v0 v1∧F=F0++(F1)∧au h v0 x.s.attrs F0∧au h v1 x.hand F1
 pos:=by decide
 len:=by rintro h x cs F ⟨v0,v1,F0,F1,rfl,rfl,r0,r1⟩;rfl
 lt:=by rintro h x cs F ⟨v0,v1,F0,F1,rfl,rfl,r0,r1⟩;intro b hb;rcases List.mem_append.1 hb with hb|hb;exact r0.lt b hb;exact r1.lt b hb
 keep:=by rintro h h' x cs F ⟨v0,v1,F0,F1,rfl,rfl,r0,r1⟩ k;exact⟨_,_,_,_,rfl,rfl,r0.keep fun b hb=>k b (List.mem_append_left _ hb),r1.keep fun b hb=>k b (List.mem_append_right _ (hb))⟩
theorem alb {h:AH} {a0:Int} {a1:Int} {a2:Span} {c2:List AV} {F2:List Nat} {a3:Int} {a4:Int} {a5:List Itm} {v5:AV} {F5:List Nat} {a6:Int} (k0:Cel.ok a0) (k1:Cel.ok a1) (r2:Cel.rep h a2 c2 F2) (k2:Cel.ok a2) (k3:Cel.ok a3) (k4:Cel.ok a4) (r5:au h v5 a5 F5) (k5:Cel.ok a5) (k6:Cel.ok a6):∃ x:Task,Cel.rep h x ([.int .i64 a0]++([.int .i64 a1]++(c2++([.int .i64 a3]++([.int .i64 a4]++([v5]++([.int .i64 a6]++[]))))))) ([]++([]++(F2++([]++([]++(F5++([]++[])))))))∧Cel.ok x:=by
 obtain⟨w2,rfl,q2⟩:=r2
 exact⟨⟨a0,a1,a2,a3,a4,a5,a6⟩,⟨w2,v5,F2,F5,rfl,by simp,q2,r5⟩,⟨k0,k1,k2,k3,k4,k5,k6⟩⟩
structure bN where
 op:Int
 task:Int
 s:Span
 trace:Int
 stamp:Int
 code:Int
 keep:Bool
 void:Bool
 took:Int
 n:Int
 forgot:Int
 now:Int
 inv:Int
 lin:Int
 res:Int
def bN.cs (x:bN) (v0:AV):List AV:=[.int .i64 x.op,.int .i64 x.task,.int .i64 x.s.trace,.int .i64 x.s.id,.int .i64 x.s.start,.int .i64 x.s.fin,.bool x.s.err,v0,.int .i64 x.trace,.int .i64 x.stamp,.int .i64 x.code,.bool x.keep,.bool x.void,.int .i64 x.took,.int .i64 x.n,.int .i64 x.forgot,.int .i64 x.now,.int .i64 x.inv,.int .i64 x.lin,.int .i64 x.res]
instance:Cel bN where
 w:=20
 ok:=fun x=>Cel.ok x.op∧Cel.ok x.task∧Cel.ok x.s∧Cel.ok x.trace∧Cel.ok x.stamp∧Cel.ok x.code∧Cel.ok x.took∧Cel.ok x.n∧Cel.ok x.forgot∧Cel.ok x.now∧Cel.ok x.inv∧Cel.ok x.lin∧Cel.ok x.res
 rep:=fun h x cs F=>∃ v,cs=x.cs v∧au h v x.s.attrs F
 pos:=by decide
 len:=by rintro h x cs F ⟨v,rfl,_⟩;rfl
 lt:=by rintro h x cs F ⟨v,rfl,r⟩;exact r.lt
 keep:=by rintro h h' x cs F ⟨v,rfl,r⟩ k;exact⟨v,rfl,r.keep k⟩
theorem ald {h:AH} {a0:Int} {a1:Int} {a2:Span} {c2:List AV} {F2:List Nat} {a3:Int} {a4:Int} {a5:Int} {a6:Bool} {a7:Bool} {a8:Int} {a9:Int} {a10:Int} {a11:Int} {a12:Int} {a13:Int} {a14:Int} (k0:Cel.ok a0) (k1:Cel.ok a1) (r2:Cel.rep h a2 c2 F2) (k2:Cel.ok a2) (k3:Cel.ok a3) (k4:Cel.ok a4) (k5:Cel.ok a5) (k6:Cel.ok a6) (k7:Cel.ok a7) (k8:Cel.ok a8) (k9:Cel.ok a9) (k10:Cel.ok a10) (k11:Cel.ok a11) (k12:Cel.ok a12) (k13:Cel.ok a13) (k14:Cel.ok a14):∃ x:bN,Cel.rep h x ([.int .i64 a0]++([.int .i64 a1]++(c2++([.int .i64 a3]++([.int .i64 a4]++([.int .i64 a5]++([.bool a6]++([.bool a7]++([.int .i64 a8]++([.int .i64 a9]++([.int .i64 a10]++([.int .i64 a11]++([.int .i64 a12]++([.int .i64 a13]++([.int .i64 a14]++[]))))))))))))))) ([]++([]++(F2++([]++([]++([]++([]++([]++([]++([]++([]++([]++([]++([]++([]++[])))))))))))))))∧Cel.ok x:=by
 obtain⟨w2,rfl,q2⟩:=r2
 exact⟨⟨a0,a1,a2,a3,a4,a5,a6,a7,a8,a9,a10,a11,a12,a13,a14⟩,⟨w2,rfl,by simpa using q2⟩,⟨k0,k1,k2,k3,k4,k5,k8,k9,k10,k11,k12,k13,k14⟩⟩
structure Wld where
 c:fF
 time:Int
 shut:Bool
 st:List aU
 bH:Int
 b:Bucket
 cache:List bM
 used:Int
 w:dN
 due:List Timer
 queue:List Itm
 out:List Itm
 tasks:List Task
 aH:List bN
 next:Int
def Wld.cs (x:Wld) (v0 v1 v2 v3 v4 v5 v6 v7 v8 v9 v10:AV):List AV:=[.int .i64 x.c.bZ,.int .i64 x.c.wait,.int .i64 x.c.budget,.int .i64 x.c.cache,.int .i64 x.c.queue,.int .i64 x.c.rate,.int .i64 x.c.aW,.int .i64 x.c.rule.kind,.int .i64 x.c.rule.n,.str x.c.rule.key,.str x.c.rule.text,v0,.int .i64 x.time,.bool x.shut,v1,.int .i64 x.bH,.int .i64 x.b.rate,.int .i64 x.b.aW,.int .i64 x.b.tokens,.int .i64 x.b.at_,v2,.int .i64 x.used,.int .i64 x.w.now,v3,v4,v5,v6,v7,v8,v9,v10,.int .i64 x.next]
instance:Cel Wld where
 w:=32
 ok:=fun x=>Cel.ok x.c∧Cel.ok x.time∧Cel.ok x.st∧Cel.ok x.bH∧Cel.ok x.b∧Cel.ok x.cache∧Cel.ok x.used∧Cel.ok x.w∧Cel.ok x.due∧Cel.ok x.queue∧Cel.ok x.out∧Cel.ok x.tasks∧Cel.ok x.aH∧Cel.ok x.next
 rep:=fun h x cs F=>∃ v0 v1 v2 v3 v4 v5 v6 v7 v8 v9 v10 F0 F1 F2 F3 F4 F5 F6 F7 F8 F9 F10,cs=x.cs v0 v1 v2 v3 v4 v5 v6 v7 v8 v9 v10∧F=F0++(F1++(F2++(F3++(F4++(F5++(F6++(F7++(F8++(F9++(F10))))))))))∧au h v0 x.c.rule.l F0∧au h v1 x.st F1∧au h v2 x.cache F2∧au h v3 x.w.near F3∧au h v4 x.w.far F4∧au h v5 x.w.rest F5∧au h v6 x.due F6∧au h v7 x.queue F7∧au h v8 x.out F8∧au h v9 x.tasks F9∧au h v10 x.aH F10
 pos:=by decide
 len:=by rintro h x cs F ⟨v0,v1,v2,v3,v4,v5,v6,v7,v8,v9,v10,F0,F1,F2,F3,F4,F5,F6,F7,F8,F9,F10,rfl,rfl,r0,r1,r2,r3,r4,r5,r6,r7,r8,r9,r10⟩;rfl
 lt:=by rintro h x cs F ⟨v0,v1,v2,v3,v4,v5,v6,v7,v8,v9,v10,F0,F1,F2,F3,F4,F5,F6,F7,F8,F9,F10,rfl,rfl,r0,r1,r2,r3,r4,r5,r6,r7,r8,r9,r10⟩;intro b hb;rcases List.mem_append.1 hb with hb|hb;exact r0.lt b hb;rcases List.mem_append.1 hb with hb|hb;exact r1.lt b hb;rcases List.mem_append.1 hb with hb|hb;exact r2.lt b hb;rcases List.mem_append.1 hb with hb|hb;exact r3.lt b hb;rcases List.mem_append.1 hb with hb|hb;exact r4.lt b hb;rcases List.mem_append.1 hb with hb|hb;exact r5.lt b hb;rcases List.mem_append.1 hb with hb|hb;exact r6.lt b hb;rcases List.mem_append.1 hb with hb|hb;exact r7.lt b hb;rcases List.mem_append.1 hb with hb|hb;exact r8.lt b hb;rcases List.mem_append.1 hb with hb|hb;exact r9.lt b hb;exact r10.lt b hb
 keep:=by rintro h h' x cs F ⟨v0,v1,v2,v3,v4,v5,v6,v7,v8,v9,v10,F0,F1,F2,F3,F4,F5,F6,F7,F8,F9,F10,rfl,rfl,r0,r1,r2,r3,r4,r5,r6,r7,r8,r9,r10⟩ k;exact⟨_,_,_,_,_,_,_,_,_,_,_,_,_,_,_,_,_,_,_,_,_,_,rfl,rfl,r0.keep fun b hb=>k b (List.mem_append_left _ hb),r1.keep fun b hb=>k b (List.mem_append_right _ (List.mem_append_left _ hb)),r2.keep fun b hb=>k b (List.mem_append_right _ (List.mem_append_right _ (List.mem_append_left _ hb))),r3.keep fun b hb=>k b (List.mem_append_right _ (List.mem_append_right _ (List.mem_append_right _ (List.mem_append_left _ hb)))),r4.keep fun b hb=>k b (List.mem_append_right _ (List.mem_append_right _ (List.mem_append_right _ (List.mem_append_right _ (List.mem_append_left _ hb))))),r5.keep fun b hb=>k b (List.mem_append_right _ (List.mem_append_right _ (List.mem_append_right _ (List.mem_append_right _ (List.mem_append_right _ (List.mem_append_left _ hb)))))),r6.keep fun b hb=>k b (List.mem_append_right _ (List.mem_append_right _ (List.mem_append_right _ (List.mem_append_right _ (List.mem_append_right _ (List.mem_append_right _ (List.mem_append_left _ hb))))))),r7.keep fun b hb=>k b (List.mem_append_right _ (List.mem_append_right _ (List.mem_append_right _ (List.mem_append_right _ (List.mem_append_right _ (List.mem_append_right _ (List.mem_append_right _ (List.mem_append_left _ hb)))))))),r8.keep fun b hb=>k b (List.mem_append_right _ (List.mem_append_right _ (List.mem_append_right _ (List.mem_append_right _ (List.mem_append_right _ (List.mem_append_right _ (List.mem_append_right _ (List.mem_append_right _ (List.mem_append_left _ hb))))))))),r9.keep fun b hb=>k b (List.mem_append_right _ (List.mem_append_right _ (List.mem_append_right _ (List.mem_append_right _ (List.mem_append_right _ (List.mem_append_right _ (List.mem_append_right _ (List.mem_append_right _ (List.mem_append_right _ (List.mem_append_left _ hb)))))))))),r10.keep fun b hb=>k b (List.mem_append_right _ (List.mem_append_right _ (List.mem_append_right _ (List.mem_append_right _ (List.mem_append_right _ (List.mem_append_right _ (List.mem_append_right _ (List.mem_append_right _ (List.mem_append_right _ (List.mem_append_right _ (hb)))))))))))⟩
theorem al4 {h:AH} {a0:fF} {c0:List AV} {F0:List Nat} {a1:Int} {a2:Bool} {a3:List aU} {v3:AV} {F3:List Nat} {a4:Int} {a5:Bucket} {c5:List AV} {F5:List Nat} {a6:List bM} {v6:AV} {F6:List Nat} {a7:Int} {a8:dN} {c8:List AV} {F8:List Nat} {a9:List Timer} {v9:AV} {F9:List Nat} {a10:List Itm} {v10:AV} {F10:List Nat} {a11:List Itm} {v11:AV} {F11:List Nat} {a12:List Task} {v12:AV} {F12:List Nat} {a13:List bN} {v13:AV} {F13:List Nat} {a14:Int} (r0:Cel.rep h a0 c0 F0) (k0:Cel.ok a0) (k1:Cel.ok a1) (k2:Cel.ok a2) (r3:au h v3 a3 F3) (k3:Cel.ok a3) (k4:Cel.ok a4) (r5:Cel.rep h a5 c5 F5) (k5:Cel.ok a5) (r6:au h v6 a6 F6) (k6:Cel.ok a6) (k7:Cel.ok a7) (r8:Cel.rep h a8 c8 F8) (k8:Cel.ok a8) (r9:au h v9 a9 F9) (k9:Cel.ok a9) (r10:au h v10 a10 F10) (k10:Cel.ok a10) (r11:au h v11 a11 F11) (k11:Cel.ok a11) (r12:au h v12 a12 F12) (k12:Cel.ok a12) (r13:au h v13 a13 F13) (k13:Cel.ok a13) (k14:Cel.ok a14):∃ x:Wld,Cel.rep h x (c0++([.int .i64 a1]++([.bool a2]++([v3]++([.int .i64 a4]++(c5++([v6]++([.int .i64 a7]++(c8++([v9]++([v10]++([v11]++([v12]++([v13]++([.int .i64 a14]++[]))))))))))))))) (F0++([]++([]++(F3++([]++(F5++(F6++([]++(F8++(F9++(F10++(F11++(F12++(F13++([]++[])))))))))))))))∧Cel.ok x:=by
 obtain⟨w0,rfl,q0⟩:=r0
 obtain⟨rfl,rfl⟩:=r5
 obtain⟨am4,am3,am2,anZ,anY,anX,rfl,rfl,anl,ank,anj⟩:=r8
 exact⟨⟨a0,a1,a2,a3,a4,a5,a6,a7,a8,a9,a10,a11,a12,a13,a14⟩,⟨w0,v3,v6,am4,am3,am2,v9,v10,v11,v12,v13,F0,F3,F6,anZ,anY,anX,F9,F10,F11,F12,F13,rfl,by simp,q0,r3,r6,anl,ank,anj,r9,r10,r11,r12,r13⟩,⟨k0,k1,k3,k4,k5,k6,k7,k8,k9,k10,k11,k12,k13,k14⟩⟩
end Go.Ab
end
section
set_option linter.unusedSimpArgs false
set_option linter.unusedVariables false
namespace Go.Ab
open Go.RowKit
def nN:Nat→Nat→List UInt8
 |0,_=>[]
 |fuel+1,k=>if k=0 then[] else nN fuel (k / 10)++[UInt8.ofNat (48+k % 10)]
def mh (k:Int):ByteArray:=if k≤0 then⟨#[109,48]⟩ else⟨(109::nN k.toNat k.toNat).toArray⟩
inductive FV:Type 1 where
 |i (n:Int)
 |b (x:Bool)
 |s (x:ByteArray)
 |l {β:Type} (c:Cel β) (m:Mk β) (xs:List β)
def je (h:AH):List FV→List AV→List Nat→Prop
 |[],cs,F=>cs=[]∧F=[]
 | .i n::fs,cs,F=>∃ d,cs= .int .i64 n::d∧je h fs d F
 | .b n::fs,cs,F=>∃ d,cs= .bool n::d∧je h fs d F
 | .s n::fs,cs,F=>∃ d,cs= .str n::d∧je h fs d F
 | .l c _ xs::fs,cs,F=>∃ v d F1 F2,cs=v::d∧F=F1++F2∧au h v xs F1∧je h fs d F2
def dM:Int→List FV→List FV × Int
 |m,[]=>([],m)
 |m,.i _::fs=>(.i m::(dM (m+1) fs).1,(dM (m+1) fs).2)
 |m,.b _::fs=>(.b (decide (m.tmod 3=0))::(dM (m+1) fs).1,(dM (m+1) fs).2)
 |m,.s _::fs=>(.s (mh m)::(dM (m+1) fs).1,(dM (m+1) fs).2)
 |m,.l c k xs::fs=>(.l c k (mks m xs).1::(dM (mks m xs).2 fs).1,(dM (mks m xs).2 fs).2)
theorem je.lt {h:AH}:∀ {fs:List FV} {cs:List AV} {F:List Nat},je h fs cs F→∀ b∈F,b < h.n
 |[],cs,F,r=>by obtain⟨_,rfl⟩:=r;simp
 | .i _::fs,cs,F,r=>by obtain⟨d,_,r⟩:=r;exact r.lt
 | .b _::fs,cs,F,r=>by obtain⟨d,_,r⟩:=r;exact r.lt
 | .s _::fs,cs,F,r=>by obtain⟨d,_,r⟩:=r;exact r.lt
 | .l c _ xs::fs,cs,F,r=>by
  obtain⟨v,d,F1,F2,_,rfl,r1,r2⟩:=r
  intro b hb
  rcases List.mem_append.1 hb with hb|hb
  ·exact r1.lt b hb
  ·exact r2.lt b hb
theorem je.keep {h h':AH}:∀ {fs:List FV} {cs:List AV} {F:List Nat},je h fs cs F→(∀ b∈F,h'.get b=h.get b∧b < h'.n)→je h' fs cs F
 |[],cs,F,r,_=>r
 | .i _::fs,cs,F,r,k=>by obtain⟨d,e,r⟩:=r;exact⟨d,e,r.keep k⟩
 | .b _::fs,cs,F,r,k=>by obtain⟨d,e,r⟩:=r;exact⟨d,e,r.keep k⟩
 | .s _::fs,cs,F,r,k=>by obtain⟨d,e,r⟩:=r;exact⟨d,e,r.keep k⟩
 | .l c _ xs::fs,cs,F,r,k=>by
  obtain⟨v,d,F1,F2,e,rfl,r1,r2⟩:=r
  exact⟨v,d,F1,F2,e,rfl,r1.keep fun b hb=>k b (List.mem_append_left _ hb),r2.keep fun b hb=>k b (List.mem_append_right _ hb)⟩
def UpF:List FV→Prop
 |[]=>True
 | .l _ k xs::fs=>(∀ m,m≤(mks m xs).2)∧UpF fs
 |_::fs=>UpF fs
class Fld (α:Type) [Cel α] [Mk α] where
 f:α→List FV
 rep:∀ (h:AH) (x:α) (cs:List AV) (F:List Nat),Cel.rep h x cs F↔je h (f x) cs F
 put:∀ (m:Int) (x:α),f (Mk.put m x).1=(dM m (f x)).1∧(Mk.put m x).2=(dM m (f x)).2
 ups:∀ x,UpF (f x)
class ao4 (α:Type) [Mk α] where
 up:∀ (m:Int) (x:α),m≤(Mk.put m x).2
theorem jJ:∀ (fs:List FV) (m:Int),UpF fs→m≤(dM m fs).2
 |[],m,_=>by simp[dM]
 | .i _::fs,m,u=>by have:=jJ fs (m+1) u;simp only[dM];omega
 | .b _::fs,m,u=>by have:=jJ fs (m+1) u;simp only[dM];omega
 | .s _::fs,m,u=>by have:=jJ fs (m+1) u;simp only[dM];omega
 | .l c k xs::fs,m,u=>by have:=u.1 m;have:=jJ fs (mks m xs).2 u.2;simp only[dM];omega
inductive MKd where
 |i
 |b
 |s (f:FuncId)
 |l (f:FuncId)
def kE:List Nat→AV→(AV→Prog)→Prog
 |[],v,K=>K v
 |p::ps,v,K=>.op (.fad p v) fun v=>kE ps v K
def rH (w:Nat) (x0 i:AV):List (List Nat × MKd)→AV→(AV→Prog)→Prog
 |[],k,K=>K k
 |(p,.i)::fs,k,K=>.op (.idx w x0 i) fun v=>kE p v fun v=>.op (.st 1 v k) fun _=>.op (.bin 0 .add k (.int .i64 1)) fun k=>rH w x0 i fs k K
 |(p,.b)::fs,k,K=>.op (.bin 0 .rem k (.int .i64 3)) fun a=>.op (.bin 0 .eql a (.int .i64 0)) fun a=>.op (.idx w x0 i) fun v=>kE p v fun v=>.op (.st 1 v a) fun _=>.op (.bin 0 .add k (.int .i64 1)) fun k=>rH w x0 i fs k K
 |(p,.s f)::fs,k,K=>.op (.call f [k]) fun a=>.op (.idx w x0 i) fun v=>kE p v fun v=>.op (.st 1 v a) fun _=>.op (.bin 0 .add k (.int .i64 1)) fun k=>rH w x0 i fs k K
 |(p,.l f)::fs,k,K=>.op (.idx w x0 i) fun v=>kE p v fun v=>.op (.ld1 v) fun v=>.op (.call f [v,k]) fun k=>rH w x0 i fs k K
def VO (w:Nat) (fs:List (List Nat × MKd)) (x0 x1:AV):Prog:=.loop [x1,AV.int .i64 0] (fun vs=>.op (.len 0 x0) fun v=>.op (.bin 0 .lss (g vs 1) v) fun v=>.ite v (rH w x0 (g vs 1) fs (g vs 0) fun k=>.op (.bin 0 .add (g vs 1) (AV.int .i64 1)) fun j=>.leaf 0 [k,j]) (.leaf 2 [g vs 0,g vs 1])) fun t vs=>aA t 1 (.leaf 1 vs) (aA t 2 (.fin [.val (g vs 0)]) .bad)
def vP (w:Nat) (x0 i:AV):List (List Nat × MKd)→AV→(AV→Prog)→Prog
 |[],k,K=>K k
 |(p,.i)::fs,k,K=>.op (.idx w x0 i) fun v=>kE p v fun v=>.op (.ld1 v) fun v=>.op (.bin 0 .neq v k) fun v=>.ite v (.fin [.val (AV.int .i64 (-1))]) (.op (.bin 0 .add k (.int .i64 1)) fun k=>vP w x0 i fs k K)
 |(p,.b)::fs,k,K=>.op (.idx w x0 i) fun v=>kE p v fun v=>.op (.ld1 v) fun v=>.op (.bin 0 .rem k (.int .i64 3)) fun a=>.op (.bin 0 .eql a (.int .i64 0)) fun a=>.op (.bin 2 .neq v a) fun v=>.ite v (.fin [.val (AV.int .i64 (-1))]) (.op (.bin 0 .add k (.int .i64 1)) fun k=>vP w x0 i fs k K)
 |(p,.s f)::fs,k,K=>.op (.idx w x0 i) fun v=>kE p v fun v=>.op (.ld1 v) fun u=>.op (.call f [k]) fun a=>.chk (.ld1 v) u (.op (.bin 1 .neq u a) fun v=>.ite v (.fin [.val (AV.int .i64 (-1))]) (.op (.bin 0 .add k (.int .i64 1)) fun k=>vP w x0 i fs k K))
 |(p,.l f)::fs,k,K=>.op (.idx w x0 i) fun v=>kE p v fun v=>.op (.ld1 v) fun v=>.op (.call f [v,k]) fun k=>.op (.bin 0 .lss k (AV.int .i64 0)) fun v=>.ite v (.fin [.val (AV.int .i64 (-1))]) (vP w x0 i fs k K)
def VR (w:Nat) (fs:List (List Nat × MKd)) (x0 x1:AV):Prog:=.loop [x1,AV.int .i64 0] (fun vs=>.op (.len 0 x0) fun v=>.op (.bin 0 .lss (g vs 1) v) fun v=>.ite v (vP w x0 (g vs 1) fs (g vs 0) fun k=>.op (.bin 0 .add (g vs 1) (AV.int .i64 1)) fun j=>.leaf 0 [k,j]) (.leaf 2 [g vs 0,g vs 1])) fun t vs=>aA t 1 (.leaf 1 vs) (aA t 2 (.fin [.val (g vs 0)]) .bad)
def KY (P:Program) (f:FuncId):Prop:=∀ (k:Int) (h:AH),0≤k→k≤1099511627776→aN P f [.int .i64 k] h (.str (mh k))
def yP (α:Type) [Cel α] [Mk α] (P:Program) (f:FuncId) (xs:List α):Prop:=∀ (v:AV) (F:List Nat) (n:Nat) (m:Int) (h:AH),au h v xs F→Own n h F→0≤m→(mks m xs).2≤1099511627776→
 cZ P f [v,.int .i64 m] h fun r h'=>r= .int .i64 (mks m xs).2∧Kp h h' F∧au h' v (mks m xs).1 F∧Own n h' F
def yQ (α:Type) [Cel α] [Mk α] (P:Program) (f:FuncId) (xs:List α):Prop:=∀ (v:AV) (F:List Nat) (m:Int) (h:AH),au h v (mks m xs).1 F→0≤m→(mks m xs).2≤1099511627776→aN P f [v,.int .i64 m] h (.int .i64 (mks m xs).2)
theorem jU.x {α:Type} [Cel α] [Mk α] {P:Program} {f:FuncId} (h:jU α P f) {xs:List α}:yP α P f xs:=h xs
theorem jV.x {α:Type} [Cel α] [Mk α] {P:Program} {f:FuncId} (h:jV α P f) {xs:List α}:yQ α P f xs:=h xs
def MOk (P:Program):List (List Nat × MKd)→List FV→Nat→Prop
 |[],[],_=>True
 |(p,.i)::ss,.i _::fs,j=>p.sum=j∧MOk P ss fs (j+1)
 |(p,.b)::ss,.b _::fs,j=>p.sum=j∧MOk P ss fs (j+1)
 |(p,.s f)::ss,.s _::fs,j=>p.sum=j∧KY P f∧MOk P ss fs (j+1)
 |(p,.l f)::ss,.l (β:=β) c k xs::fs,j=>p.sum=j∧@yP β c k P f xs∧MOk P ss fs (j+1)
 |_,_,_=>False
def HOk (P:Program):List (List Nat × MKd)→List FV→Nat→Prop
 |[],[],_=>True
 |(p,.i)::ss,.i _::fs,j=>p.sum=j∧HOk P ss fs (j+1)
 |(p,.b)::ss,.b _::fs,j=>p.sum=j∧HOk P ss fs (j+1)
 |(p,.s f)::ss,.s _::fs,j=>p.sum=j∧KY P f∧HOk P ss fs (j+1)
 |(p,.l f)::ss,.l (β:=β) c k xs::fs,j=>p.sum=j∧@yQ β c k P f xs∧HOk P ss fs (j+1)
 |_,_,_=>False
section
variable{P:Program} {h h':AH} {Q:Nat→List AV→AH→Prop}
theorem nk {K:AV→Prog}:∀ (p:List Nat) {b o:Nat},(K (.ptr b (o+p.sum))).awp P h Q→(kE p (.ptr b o) K).awp P h Q
 |[],b,o,hk=>by simpa[kE] using hk
 |x::p,b,o,hk=>by
  refine rC (nk p ?_)
  simpa[Nat.add_assoc] using hk
theorem Ko {b es o:Nat} {A R:List AV} {x c v:AV} {k:AV→Prog} (hg:h.get b=⟨A++(c::R),es,0⟩) (hx:x.cells? =some [v]) (ho:o=A.length) (hk:(k (.tup [])).awp P (h.upd b ⟨A++(v::R),es,0⟩) Q):
  (Prog.op (.st 1 (.ptr b o) x) k).awp P h Q:=by
 refine rR (by simp[mine,hg]) hx rfl (by rw[hg];simp;omega) ?_
 have:splice (A++(c::R)) o [v]=A++(v::R):=by
  subst ho;unfold splice
  rw[List.take_left,show A.length+[v].length=(A++[c]).length by simp,show A++(c::R)=(A++[c])++R by simp,List.drop_left];simp
 rw[hg];simp only[this];exact hk
theorem alu {b es o:Nat} {A R:List AV} {c:AV} {k:AV→Prog} (hg:h.get b=⟨A++(c::R),es,0⟩) (ho:o=A.length) (hk:(k c).awp P h Q):(Prog.op (.ld1 (.ptr b o)) k).awp P h Q:=by
 subst ho
 exact pO (by rw[hg];simp) (by simp[live,hg]) hk
theorem ajX {b:Nat} {k:Blk} {X:List Nat} (hb:b∈X):Kp h (h.upd b k) X:=⟨Nat.le_refl _,fun c _ hX=>by
 have:c≠b:=fun e=>hX (e▸hb)
 simp[this]⟩
theorem Kp.mono {X Y:List Nat} (k:Kp h h' X) (hs:∀ b∈X,b∈Y):Kp h h' Y:=⟨k.1,fun b hb hn=>k.2 b hb fun hx=>hn (hs b hx)⟩
theorem ajk {w b off len i:Nat} {K:AV→Prog} (hi:i < len) {n:Nat}:∀ (fs:List FV) (ss:List (List Nat × MKd)) (j:Nat) (A E R:List AV) (G:List Nat) (m:Int) (h:AH),MOk P ss fs j→UpF fs→h.get b=⟨A++(E++R),w,0⟩→b < h.n→A.length=off+i * w+j→je h fs E G→Own n h G→b ∉ G→0≤m→(dM m fs).2≤1099511627776→
  (∀ h' E',h'.get b=⟨A++(E'++R),w,0⟩→je h' (dM m fs).1 E' G→Own n h' G→Kp h h' (b::G)→(K (.int .i64 (dM m fs).2)).awp P h' Q)→
  (rH w (.sl b off len) (.int .i64 i) ss (.int .i64 m) K).awp P h Q:=by
 have J6:∀ (fs:List FV) (ss:List (List Nat × MKd)) (j:Nat) (A E R:List AV) (G:List Nat) (m:Int) (h:AH) (c v:AV) (f':FV) (mk:List FV→List FV),
   h.get b=⟨A++(c::(E++R)),w,0⟩→b < h.n→A.length=off+i * w+j→je h fs E G→Own n h G→b ∉ G→
   (∀ h',h'=h.upd b ⟨A++(v::(E++R)),w,0⟩→h'.get b=⟨(A++[v])++(E++R),w,0⟩∧b < h'.n∧(A++[v]).length=off+i * w+(j+1)∧je h' fs E G∧Own n h' G∧Kp h h' (b::G)):=by
  intro fs ss j A E R G m h c v f' mk hg hb hA r o hbG h' e
  subst e
  have hk:∀ x∈G,(h.upd b ⟨A++(v::(E++R)),w,0⟩).get x=h.get x:=fun x hx=>by
   have:x≠b:=fun e=>hbG (e▸hx)
   simp[this]
  exact⟨by simp,by simpa using hb,by simp;omega,r.keep fun x hx=>⟨hk x hx,by simpa using r.lt x hx⟩,o.mono (Nat.le_refl _) hk,ajX (by simp)⟩
 intro fs
 induction fs with
 |nil=>
  intro ss j A E R G m h hok _ hg hb hA r o hbG h0 h1 hk
  obtain⟨rfl,rfl⟩:=r
  cases ss with
  |nil=>exact hk h [] hg ⟨rfl,rfl⟩ o (Kp.refl _ _)
  |cons s ss=>simp only[MOk,HOk] at hok
 |cons f fs ih=>
  intro ss j A E R G m h hok hu hg hb hA r o hbG h0 h1 hk
  cases ss with
  |nil=>exact hok.elim
  |cons s ss=>
   obtain⟨p,s⟩:=s
   cases f with
   |i x=>
    cases s<;>simp only[MOk] at hok
    obtain⟨rfl,hok⟩:=hok
    obtain⟨E,rfl,r⟩:=r
    have hup:=jJ fs (m+1) hu
    simp only[dM] at h1 hk
    obtain⟨c1,c2,c3,c4,c5,c6⟩:=J6 fs ss _ A E R G m h _ (.int .i64 m) (.i m) id hg hb hA r o hbG _ rfl
    refine lT hi (nk p (Ko hg rfl (by omega) (jl (by omega) (by omega) (ih ss _ _ E R G (m+1) _ hok hu c1 c2 c3 c4 c5 hbG (by omega) h1 ?_))))
    intro h' E' g1 g2 g3 g4
    exact hk h' (.int .i64 m::E') (by rw[g1];simp) ⟨E',rfl,g2⟩ g3 (c6.trans g4)
   |b x=>
    cases s<;>simp only[MOk] at hok
    obtain⟨rfl,hok⟩:=hok
    obtain⟨E,rfl,r⟩:=r
    have hup:=jJ fs (m+1) hu
    simp only[dM] at h1 hk
    obtain⟨c1,c2,c3,c4,c5,c6⟩:=J6 fs ss _ A E R G m h _ (.bool (decide (m.tmod 3=0))) (.i m) id hg hb hA r o hbG _ rfl
    refine nD (by decide) ?_
    have key:(Prog.op (.idx w (.sl b off len) (.int .i64 i)) fun v=>kE p v fun v=>.op (.st 1 v (.bool (decide (m.tmod 3=0)))) fun _=>.op (.bin 0 .add (.int .i64 m) (.int .i64 1)) fun k=>rH w (.sl b off len) (.int .i64 i) ss k K).awp P h Q:=by
     refine lT hi (nk p (Ko hg rfl (by omega) (jl (by omega) (by omega) (ih ss _ _ E R G (m+1) _ hok hu c1 c2 c3 c4 c5 hbG (by omega) h1 ?_))))
     intro h' E' g1 g2 g3 g4
     exact hk h' (.bool (decide (m.tmod 3=0))::E') (by rw[g1];simp) ⟨E',rfl,g2⟩ g3 (c6.trans g4)
    refine vF (fun e=>?_) (fun e=>?_)
    ·simpa[e] using key
    ·simpa[e] using key
   |s x=>
    cases s<;>simp only[MOk] at hok
    obtain⟨rfl,ht,hok⟩:=hok
    obtain⟨E,rfl,r⟩:=r
    have hup:=jJ fs (m+1) hu
    simp only[dM] at h1 hk
    obtain⟨c1,c2,c3,c4,c5,c6⟩:=J6 fs ss _ A E R G m h _ (.str (mh m)) (.i m) id hg hb hA r o hbG _ rfl
    refine aQ (ht m h h0 (by omega)) ?_
    refine lT hi (nk p (Ko hg rfl (by omega) (jl (by omega) (by omega) (ih ss _ _ E R G (m+1) _ hok hu c1 c2 c3 c4 c5 hbG (by omega) h1 ?_))))
    intro h' E' g1 g2 g3 g4
    exact hk h' (.str (mh m)::E') (by rw[g1];simp) ⟨E',rfl,g2⟩ g3 (c6.trans g4)
   |l c k xs=>
    cases s<;>simp only[MOk] at hok
    obtain⟨rfl,hm,hok⟩:=hok
    obtain⟨v,E,F1,F2,rfl,rfl,r1,r2⟩:=r
    obtain⟨hu1,hu2⟩:=hu
    have hup:=jJ fs (mks m xs).2 hu2
    have anB:=hu1 m
    simp only[dM] at h1 hk
    have hnd:=List.nodup_append.1 o.1
    have o1:Own n h F1:=⟨hnd.1,fun x hx=>o.2 x (List.mem_append_left _ hx)⟩
    have o2:Own n h F2:=⟨hnd.2.1,fun x hx=>o.2 x (List.mem_append_right _ hx)⟩
    have hb1:b ∉ F1:=fun hx=>hbG (List.mem_append_left _ hx)
    have hb2:b ∉ F2:=fun hx=>hbG (List.mem_append_right _ hx)
    refine lT hi (nk p (alu hg (by omega) (aT (hm v F1 n m h r1 o1 h0 (by omega)) ?_)))
    rintro _ h2 ⟨rfl,kp,r1',o1'⟩
    have hd:∀ x∈F2,x ∉ F1:=fun x hx hx'=>hnd.2.2 x hx' x hx rfl
    have k2:∀ x∈F2,h2.get x=h.get x:=fun x hx=>kp.2 x (r2.lt x hx) (hd x hx)
    have hg2:h2.get b=⟨(A++[v])++(E++R),w,0⟩:=by rw[kp.2 b hb hb1,hg];simp
    refine ih ss _ (A++[v]) E R F2 (mks m xs).2 h2 hok hu2 hg2 (Nat.lt_of_lt_of_le hb kp.1) (by simp;omega) (r2.keep fun x hx=>⟨k2 x hx,Nat.lt_of_lt_of_le (r2.lt x hx) kp.1⟩) (o2.mono (Nat.le_refl _) k2) hb2 (by omega) h1 ?_
    intro h' E' g1 g2 g3 g4
    have lt1:=r1'.lt
    have k3:∀ x∈F1,h'.get x=h2.get x:=fun x hx=>g4.2 x (lt1 x hx) (by
     simp only[List.mem_cons,not_or]
     exact⟨fun e=>hb1 (e▸hx),fun hx'=>hd x hx' hx⟩)
    refine hk h' (v::E') (by rw[g1];simp) ⟨v,E',F1,F2,rfl,rfl,r1'.keep fun x hx=>⟨k3 x hx,Nat.lt_of_lt_of_le (lt1 x hx) g4.1⟩,g2⟩ ?_ ?_
    ·have Xf:=o1'.mono (Nat.le_refl _) k3
     exact⟨List.nodup_append.2 ⟨Xf.1,g3.1,hnd.2.2⟩,fun x hx=>by
      rcases List.mem_append.1 hx with hx|hx
      ·exact Xf.2 x hx
      ·exact g3.2 x hx⟩
    ·exact(kp.mono fun x hx=>by simp[hx]).trans (g4.mono fun x hx=>by
      rcases List.mem_cons.1 hx with e|e
      ·simp[e]
      ·simp[e])
theorem ajp {w b off len i:Nat} {K:AV→Prog} {r0:AV} (hi:i < len):∀ (fs:List FV) (ss:List (List Nat × MKd)) (j:Nat) (E:List AV) (G:List Nat) (m:Int),HOk P ss fs j→UpF fs→At h b (off+i * w+j) E→je h (dM m fs).1 E G→0≤m→(dM m fs).2≤1099511627776→
  ((K (.int .i64 (dM m fs).2)).awp P h Q)→(vP w (.sl b off len) (.int .i64 i) ss (.int .i64 m) K).awp P h Q:=by
 intro fs
 induction fs with
 |nil=>
  intro ss j E G m hok _ ha r h0 h1 hk
  cases ss with
  |nil=>exact hk
  |cons s ss=>simp only[MOk,HOk] at hok
 |cons f fs ih=>
  intro ss j E G m hok hu ha r h0 h1 hk
  cases ss with
  |nil=>exact hok.elim
  |cons s ss=>
   obtain⟨p,s⟩:=s
   cases f with
   |i x=>
    cases s<;>simp only[HOk] at hok
    obtain⟨rfl,hok⟩:=hok
    have hup:=jJ fs (m+1) hu
    simp only[dM] at h1 hk r
    obtain⟨E,rfl,r⟩:=r
    have ha':=ha.drop 1
    refine lT hi (nk p (pO (by simpa using ha.get (j:=0) rfl) ha.2.1 (vD (fun hne=>absurd rfl hne) fun _=>dw (jl (by omega) (by omega) (ih ss _ E G (m+1) hok hu ?_ r (by omega) h1 hk)))))
    simpa[Nat.add_assoc] using ha'
   |b x=>
    cases s<;>simp only[HOk] at hok
    obtain⟨rfl,hok⟩:=hok
    have hup:=jJ fs (m+1) hu
    simp only[dM] at h1 hk r
    obtain⟨E,rfl,r⟩:=r
    have ha':=ha.drop 1
    refine lT hi (nk p (pO (by simpa using ha.get (j:=0) rfl) ha.2.1 (nD (by decide) (vF (fun e=>Ew ?_) (fun e=>Ew ?_)))))
    ·simp only[e,decide_true,BEq.rfl,Bool.not_true]
     refine dw (jl (by omega) (by omega) (ih ss _ E G (m+1) hok hu ?_ r (by omega) h1 hk))
     simpa[Nat.add_assoc] using ha'
    ·simp only[e,decide_false,BEq.rfl,Bool.not_true]
     refine dw (jl (by omega) (by omega) (ih ss _ E G (m+1) hok hu ?_ r (by omega) h1 hk))
     simpa[Nat.add_assoc] using ha'
   |s x=>
    cases s<;>simp only[HOk] at hok
    obtain⟨rfl,ht,hok⟩:=hok
    have hup:=jJ fs (m+1) hu
    simp only[dM] at h1 hk r
    obtain⟨E,rfl,r⟩:=r
    have ha':=ha.drop 1
    refine lT hi (nk p (pO (by simpa using ha.get (j:=0) rfl) ha.2.1 (aQ (ht m h h0 (by omega)) (ajG ha (Ext.refl _) rfl (Kq (fun hne=>absurd rfl hne) fun _=>dw (jl (by omega) (by omega) (ih ss _ E G (m+1) hok hu ?_ r (by omega) h1 hk)))))))
    simpa[Nat.add_assoc] using ha'
   |l c k xs=>
    cases s<;>simp only[HOk] at hok
    obtain⟨rfl,hm,hok⟩:=hok
    obtain⟨hu1,hu2⟩:=hu
    have hup:=jJ fs (mks m xs).2 hu2
    have anB:=hu1 m
    simp only[dM] at h1 hk r
    obtain⟨v,E,F1,F2,rfl,rfl,r1,r2⟩:=r
    have ha':=ha.drop 1
    refine lT hi (nk p (pO (by simpa using ha.get (j:=0) rfl) ha.2.1 (aQ (hm v F1 m h r1 h0 (by omega)) (fq (fun hl=>by omega) fun _=>dw (ih ss _ E F2 (mks m xs).2 hok hu2 ?_ r2 (by omega) h1 hk)))))
    simpa[Nat.add_assoc] using ha'
end
theorem Uy {α:Type} [Mk α]:∀ (l r:List α) (m:Int),(mks m (l++r)).2=(mks (mks m l).2 r).2
 |[],r,m=>rfl
 |x::l,r,m=>by simp only[List.cons_append,mks,Uy l]
section
variable{α:Type} [Cel α] [Mk α] [Fld α]
theorem alN (m:Int) (x:α):m≤(Mk.put m x).2:=by rw[(Fld.put m x).2];exact jJ _ _ (Fld.ups x)
theorem cu:∀ (xs:List α) (m:Int),m≤(mks m xs).2
 |[],m=>by simp[mks]
 |x::xs,m=>by
  have:=alN m x
  have:=cu xs (Mk.put m x).2
  simp only[mks];omega
theorem RP (xs:List α) (m:Int) (i:Nat):(mks m (xs.take i)).2≤(mks m xs).2:=by
 conv=>rhs;rw[←List.take_append_drop i xs,Uy]
 exact cu _ _
end
section
variable{α:Type} [Cel α] {P:Program} {h:AH}
theorem bO.split:∀ {xs:List α} {cs:List AV} {F:List Nat} (_:bO h xs cs F) {i:Nat} {x:α},xs[i]? =some x→∃ c1 ci c2 G1 Fi G2,cs=c1++(ci++c2)∧F=G1++(Fi++G2)∧bO h (xs.take i) c1 G1∧Cel.rep h x ci Fi∧bO h (xs.drop (i+1)) c2 G2
 |[],cs,F,r,i,x,hx=>by simp at hx
 |y::xs,cs,F,r,0,x,hx=>by
  simp at hx;subst hx
  obtain⟨c1,c2,F1,F2,rfl,rfl,r1,r2⟩:=r
  exact⟨[],c1,c2,[],F1,F2,rfl,rfl,⟨rfl,rfl⟩,r1,r2⟩
 |y::xs,cs,F,r,i+1,x,hx=>by
  simp at hx
  obtain⟨c1,c2,F1,F2,rfl,rfl,r1,r2⟩:=r
  obtain⟨d1,di,d2,G1,Fi,G2,rfl,rfl,q1,q2,q3⟩:=r2.split hx
  exact⟨c1++d1,di,d2,F1++G1,Fi,G2,by simp,by simp,⟨c1,d1,F1,G1,rfl,rfl,r1,q1⟩,q2,q3⟩
theorem au.focus {n:Nat} {v:AV} {ys:List α} {F:List Nat} (r:au h v ys F) (o:Own n h F) {i:Nat} {x:α} (hx:ys[i]? =some x):∃ b off A cs R G1 Fi G2,v= .sl b off ys.length∧F=b::(G1++(Fi++G2))∧h.get b=⟨A++(cs++R),Cel.w α,0⟩∧b < h.n∧A.length=off+i * Cel.w α∧Cel.rep h x cs Fi∧Own n h Fi∧b ∉ Fi∧
  ∀ h' x' cs',Cel.rep h' x' cs' Fi→h'.get b=⟨A++(cs'++R),Cel.w α,0⟩→Kp h h' (b::Fi)→Own n h' Fi→au h' v (ys.set i x') F∧Own n h' F:=by
 have hi:i < ys.length:=(List.getElem?_eq_some_iff.1 hx).1
 rcases r with⟨rfl,h1,rfl⟩|⟨b,off,F',cs0,rfl,rfl,h1,h2,h3,h4,h5,h6,h7⟩
 ·omega
 obtain⟨c1,ci,c2,G1,Fi,G2,rfl,rfl,q1,q2,q3⟩:=h7.split hx
 have hst:(h.get b).st=0:=(o.2 b (by simp)).2
 have hl1:=q1.length
 rw[List.length_take,Nat.min_eq_left (by omega)] at hl1
 have hli:=Cel.len q2
 have hl7:=h7.length
 have hcl:(h.get b).cells=((h.get b).cells.take off++c1)++(ci++(c2++(h.get b).cells.drop (off+ys.length * Cel.w α))):=by
  have e1:(h.get b).cells=(h.get b).cells.take off++(h.get b).cells.drop off:=(List.take_append_drop _ _).symm
  have e2:(h.get b).cells.drop off=((h.get b).cells.drop off).take (ys.length * Cel.w α)++(h.get b).cells.drop (off+ys.length * Cel.w α):=by
   rw[←List.drop_drop,List.take_append_drop]
  rw[←h6] at e2
  conv=>lhs;rw[e1,e2]
  simp only[List.append_assoc]
 have hoff:((h.get b).cells.take off).length=off:=by simp;omega
 have hnd:=o.1
 rw[List.nodup_cons,List.nodup_append,List.nodup_append] at hnd
 obtain⟨nb,n1,⟨n2,n3,n4⟩,n5⟩:=hnd
 simp only[List.mem_append,not_or] at nb
 have oFi:Own n h Fi:=⟨n2,fun c hc=>o.2 c (by simp[hc])⟩
 refine⟨b,off,(h.get b).cells.take off++c1,ci,c2++(h.get b).cells.drop (off+ys.length * Cel.w α),G1,Fi,G2,rfl,rfl,?_,h1,by rw[List.length_append,hoff,hl1],q2,oFi,nb.2.1,?_⟩
 ·have e:h.get b=⟨(h.get b).cells,(h.get b).es,(h.get b).st⟩:=rfl
  rw[e,h3,hst];congr 1
 ·intro h' x' cs' r' hg kp o'
  have lt:=h7.lt
  have Wh:∀ c∈G1,h'.get c=h.get c∧c < h'.n:=fun c hc=>⟨kp.2 c (lt c (by simp[hc])) (by
   simp only[List.mem_cons,not_or]
   exact⟨fun e=>nb.1 (e▸hc),fun hc'=>n5 c hc c (by simp[hc']) rfl⟩),Nat.lt_of_lt_of_le (lt c (by simp[hc])) kp.1⟩
  have Wd:∀ c∈G2,h'.get c=h.get c∧c < h'.n:=fun c hc=>⟨kp.2 c (lt c (by simp[hc])) (by
   simp only[List.mem_cons,not_or]
   exact⟨fun e=>nb.2.2 (e▸hc),fun hc'=>n4 c hc' c hc rfl⟩),Nat.lt_of_lt_of_le (lt c (by simp[hc])) kp.1⟩
  have hs:ys.set i x'=ys.take i++([x']++ys.drop (i+1)):=by
   rw[List.set_eq_take_append_cons_drop,if_pos hi];simp
  have R1:bO h' (ys.set i x') (c1++(cs'++c2)) (G1++(Fi++G2)):=by
   rw[hs]
   exact(q1.keep Wh).append ((uM r').append (q3.keep Wd))
  have anF:=Cel.len r'
  have hR:=R1.length
  rw[List.length_set] at hR
  refine⟨.inr ⟨b,off,_,_,by rw[List.length_set],rfl,Nat.lt_of_lt_of_le h1 kp.1,by simp[live,hg],by simp[hg],?_,by rw[List.length_set];exact h5,?_,R1⟩,?_⟩
  ·rw[hg,List.length_set]
   have:=congrArg List.length hcl
   simp only[List.length_append,hoff,hli,anF,hl1] at this hR ⊢
   omega
  ·rw[hg,List.length_set]
   have e:((h.get b).cells.take off++c1)++(cs'++(c2++(h.get b).cells.drop (off+ys.length * Cel.w α)))=(h.get b).cells.take off++((c1++(cs'++c2))++(h.get b).cells.drop (off+ys.length * Cel.w α)):=by simp only[List.append_assoc]
   simp only[e]
   rw[List.drop_append_of_le_length (by omega),List.drop_of_length_le (by omega),List.nil_append,←hR,List.take_left]
  ·refine⟨o.1,fun c hc=>?_⟩
   have:=o.2 c hc
   refine⟨this.1,?_⟩
   rcases List.mem_cons.1 hc with e|hc
   ·subst e;rw[hg]
   ·rcases List.mem_append.1 hc with hc|hc
    ·rw[(Wh c hc).1];exact this.2
    ·rcases List.mem_append.1 hc with hc|hc
     ·exact(o'.2 c hc).2
     ·rw[(Wd c hc).1];exact this.2
end
section
variable{α:Type} [Cel α] [Mk α] [Fld α] {P:Program} {h:AH}
theorem kH {w:Nat} (hw:w=Cel.w α) {ss:List (List Nat × MKd)} {xs:List α} (hok:∀ x∈xs,MOk P ss (Fld.f x) 0) {v:AV} {F:List Nat} {n:Nat} {m:Int} (r:au h v xs F) (o:Own n h F) (h0:0≤m) (h1:(mks m xs).2≤1099511627776):
  (VO w ss v (.int .i64 m)).awp P h fun t vs h'=>t=1∧∃ u,vs=[u]∧u= .int .i64 (mks m xs).2∧Kp h h' F∧au h' v (mks m xs).1 F∧Own n h' F:=by
 subst hw
 unfold VO
 have hsm:=r.small
 refine aY xs.length (fun i vs h2=>vs=[.int .i64 (mks m (xs.take i)).2,.int .i64 (i:Int)]∧i≤xs.length∧Kp h h2 F∧au h2 v ((mks m (xs.take i)).1++xs.drop i) F∧Own n h2 F) ⟨by simp[mks],Nat.zero_le _,Kp.refl _ _,by simpa[mks] using r,o⟩ ?_
 rintro i vs h2 _ ⟨rfl,hi,kp,r2,o2⟩
 have hlen:((mks m (xs.take i)).1++xs.drop i).length=xs.length:=by rw[List.length_append,qU];simp;omega
 refine bQ r2 ?_
 rw[hlen]
 simp only[g0,g1]
 refine fq (fun hlt=>dH ?_) (fun hge=>dw ?_)
 ·obtain⟨x,hx,hd,htk⟩:=aR (show i < xs.length by omega)
  have hml:(mks m (xs.take i)).1.length=i:=by rw[qU];simp;omega
  have hy:((mks m (xs.take i)).1++xs.drop i)[i]? =some x:=by
   rw[List.getElem?_append_right (by omega),hml,Nat.sub_self,hd];rfl
  obtain⟨b,off,A,cs,R,G1,Fi,G2,rfl,rfl,hg,hb,hA,rx,oi,nb,back⟩:=r2.focus o2 hy
  have hn:(mks m (xs.take (i+1))).2=(dM (mks m (xs.take i)).2 (Fld.f x)).2:=by rw[htk,DR];exact(Fld.put _ x).2
  have hm0:=cu (xs.take i) m
  have hle:=RP xs m (i+1)
  rw[hlen]
  refine ajk (show i < xs.length by omega) (n:=n) (Fld.f x) ss 0 A cs R Fi _ h2 (hok x (List.mem_of_getElem? hx)) (Fld.ups x) hg hb (by simpa using hA) ((Fld.rep _ _ _ _).1 rx) oi nb (by omega) (by omega) ?_
  intro h' E' g1' g2' g3' g4'
  have rx':Cel.rep h' (Mk.put (mks m (xs.take i)).2 x).1 E' Fi:=(Fld.rep _ _ _ _).2 (by rw[(Fld.put _ x).1];exact g2')
  obtain⟨q1,q2⟩:=back h' _ E' rx' g1' g4' g3'
  refine fG (by omega) (dF (iQ ?_))
  refine⟨by omega,by rw[hn],by omega,kp.trans (g4'.mono fun c hc=>by
   rcases List.mem_cons.1 hc with e|e
   ·simp[e]
   ·simp[e]),?_,q2⟩
  have:(((mks m (xs.take i)).1++xs.drop i).set i (Mk.put (mks m (xs.take i)).2 x).1)=(mks m (xs.take (i+1))).1++xs.drop (i+1):=by
   rw[List.set_append_right _ _ (by omega),hml,Nat.sub_self,hd,htk,DR];simp
  rw[this,hlen] at q1
  exact q1
 ·have:i=xs.length:=by omega
  subst this
  refine dF (kP (by decide) (kJ (by decide) (kK (dI ⟨rfl,_,rfl,?_,kp,?_,o2⟩))))
  ·simp only[g0,List.take_length]
  ·simpa using r2
theorem kI {w:Nat} (hw:w=Cel.w α) {ss:List (List Nat × MKd)} {xs:List α} (hok:∀ x∈xs,HOk P ss (Fld.f x) 0) {v:AV} {F:List Nat} {m:Int} (r:au h v (mks m xs).1 F) (h0:0≤m) (h1:(mks m xs).2≤1099511627776):
  (VR w ss v (.int .i64 m)).awp P h (Post (.int .i64 (mks m xs).2) h):=by
 subst hw
 unfold VR
 have hsm:=r.small
 rw[qU] at hsm
 refine aY xs.length (fun i vs h2=>vs=[.int .i64 (mks m (xs.take i)).2,.int .i64 (i:Int)]∧i≤xs.length∧h2=h) ⟨by simp[mks],Nat.zero_le _,rfl⟩ ?_
 rintro i vs h2 _ ⟨rfl,hi,rfl⟩
 refine bQ r ?_
 rw[qU]
 simp only[g0,g1]
 refine fq (fun hlt=>dH ?_) (fun hge=>dw ?_)
 ·obtain⟨x,hx,hd,htk⟩:=aR (show i < xs.length by omega)
  have hy:(mks m xs).1[i]? =some (Mk.put (mks m (xs.take i)).2 x).1:=by
   have:xs=xs.take i++x::xs.drop (i+1):=by rw[←hd,List.take_append_drop]
   have hl:(mks m (xs.take i)).1.length=i:=by rw[qU];simp;omega
   have ha:(mks m xs).1=(mks m (xs.take i)).1++(mks (mks m (xs.take i)).2 (x::xs.drop (i+1))).1:=by
    have gen:∀ (l r:List α) (m:Int),(mks m (l++r)).1=(mks m l).1++(mks (mks m l).2 r).1:=by
     intro l
     induction l with
     |nil=>intro r m;rfl
     |cons y l ih=>intro r m;simp only[List.cons_append,mks,ih]
    conv=>lhs;rw[this]
    rw[gen]
   rw[ha,List.getElem?_append_right (by omega),hl,Nat.sub_self]
   simp[mks]
  obtain⟨b,off,cs,Fi,rfl,ha,rx,_⟩:=r.elem hy
  have hn:(mks m (xs.take (i+1))).2=(dM (mks m (xs.take i)).2 (Fld.f x)).2:=by rw[htk,DR];exact(Fld.put _ x).2
  have hm0:=cu (xs.take i) m
  have hle:=RP xs m (i+1)
  have rx':=(Fld.rep _ _ _ _).1 rx
  rw[(Fld.put _ x).1] at rx'
  refine ajp (by rw[qU];omega) (r0:=.un) (Fld.f x) ss 0 cs Fi _ (hok x (List.mem_of_getElem? hx)) (Fld.ups x) (by simpa using ha) rx' (by omega) (by omega) ?_
  exact fG (by omega) (dF (iQ ⟨by omega,by rw[hn],by omega,rfl⟩))
 ·have:i=xs.length:=by omega
  subst this
  refine dF (kP (by decide) (kJ (by decide) (kK (dI ⟨rfl,?_,Ext.refl _⟩))))
  simp only[g0,List.take_length]
end
end Go.Ab
end
section
set_option linter.unusedSimpArgs false
set_option linter.unusedVariables false
namespace Go.Ab
open Go.RowKit
class Cnt (α:Type) [Mk α] [Sz α]:Prop where
 cnt:∀ (m:Int) (x:α),(Mk.put m x).2≤m+32 * (1+((Sz.sz x:Nat):Int))
theorem fJ {α:Type} [Mk α] [Sz α] [Cnt α]:∀ (xs:List α) (m:Int),(mks m xs).2≤m+32 * ((xs.length+szs xs:Nat):Int)
 |[],m=>by simp[mks,szs]
 |x::xs,m=>by
  have:=Cnt.cnt m x
  have:=fJ xs (Mk.put m x).2
  simp only[mks,szs,List.length_cons];omega
instance:Sz Int:=⟨fun _=>0⟩
instance:Mk Int:=⟨fun m _=>(m,m+1)⟩
instance:Flat Int where
 toCel:=inferInstance
 enc:=fun x=>[.int .i64 x]
 bX:=Iff.rfl
instance:Fld Int where
 f:=fun x=>[.i x]
 rep:=by
  intro h x cs F
  constructor
  ·rintro⟨rfl,rfl⟩;exact⟨_,rfl,rfl,rfl⟩
  ·rintro⟨_,rfl,rfl,rfl⟩;exact⟨rfl,rfl⟩
 put:=fun m x=>⟨rfl,rfl⟩
 ups:=fun x=>trivial
instance:Cnt Int:=⟨fun m x=>by show m+1≤_;simp only[Sz.sz];omega⟩
instance:Flat bM where
 toCel:=inferInstance
 enc:=bM.cs
 bX:=Iff.rfl
instance{α:Type} [Sz α]:Sz (List α):=⟨fun xs=>xs.length+szs xs⟩
instance{α:Type} [Mk α]:Mk (List α):=⟨fun m xs=>mks m xs⟩
instance{α:Type} [Cel α] [Mk α] [Fld α]:Fld (List α) where
 f:=fun x=>[.l inferInstance inferInstance x]
 rep:=by
  intro h x cs F
  constructor
  ·rintro⟨v,rfl,r⟩;exact⟨v,_,F,[],rfl,by simp,r,rfl,rfl⟩
  ·rintro⟨v,_,F1,F2,rfl,rfl,r,rfl,rfl⟩;exact⟨v,rfl,by simpa using r⟩
 put:=fun m x=>⟨rfl,rfl⟩
 ups:=fun x=>⟨fun m=>cu _ m,trivial⟩
instance{α:Type} [Mk α] [Sz α] [Cnt α]:Cnt (List α):=⟨fun m x=>by
 have:=fJ x m
 show(mks m x).2≤m+32 * (1+((x.length+szs x:Nat):Int))
 omega⟩
mutual
def Pol.szP:Pol→Nat
 | .mk _ _ s t l=>s.size+t.size+(l.length+Pol.rW l)
def Pol.rW:List Pol→Nat
 |[]=>0
 |p::ps=>Pol.szP p+Pol.rW ps
end
instance:Sz Pol:=⟨Pol.szP⟩
theorem Pol.Vl:∀ (l:List Pol),szs l=Pol.rW l
 |[]=>rfl
 |p::ps=>by simp only[szs,Pol.rW,Pol.Vl ps];rfl
theorem Pol.nJ (x:Pol):Sz.sz x=x.key.size+x.text.size+(x.l.length+szs x.l):=by
 cases x with
 |mk k n s t l=>rw[Pol.Vl];rfl
mutual
def Pol.mD:Int→Pol→Pol × Int
 |m,.mk _ _ _ _ l=>(.mk m (m+1) (mh (m+1+1)) (mh (m+1+1+1)) (Pol.kD (m+1+1+1+1) l).1,(Pol.kD (m+1+1+1+1) l).2)
def Pol.kD:Int→List Pol→List Pol × Int
 |m,[]=>([],m)
 |m,p::ps=>((Pol.mD m p).1::(Pol.kD (Pol.mD m p).2 ps).1,(Pol.kD (Pol.mD m p).2 ps).2)
end
instance:Mk Pol:=⟨Pol.mD⟩
theorem Pol.KA:∀ (l:List Pol) (m:Int),mks m l=Pol.kD m l
 |[],m=>rfl
 |p::ps,m=>by simp only[mks,Pol.kD,Pol.KA ps];rfl
mutual
theorem Pol.up_:∀ (x:Pol) (m:Int),m≤(Pol.mD m x).2
 | .mk k n s t l,m=>by have:=Pol.K3 l (m+1+1+1+1);simp only[Pol.mD];omega
theorem Pol.K3:∀ (x:List Pol) (m:Int),m≤(Pol.kD m x).2
 |[],m=>by simp[Pol.kD]
 |p::ps,m=>by have:=Pol.up_ p m;have:=Pol.K3 ps (Pol.mD m p).2;simp only[Pol.kD];omega
end
instance:Fld Pol where
 f:=fun x=>[.i x.kind,.i x.n,.s x.key,.s x.text,.l inferInstance inferInstance x.l]
 rep:=by
  intro h x cs F
  rw[Pol.bX]
  constructor
  ·rintro⟨v0,rfl,r0⟩;exact⟨_,rfl,_,rfl,_,rfl,_,rfl,v0,_,F,[],rfl,by simp,r0,rfl,rfl⟩
  ·rintro⟨_,rfl,_,rfl,_,rfl,_,rfl,v0,_,F0,_,rfl,rfl,r0,rfl,rfl⟩;exact⟨v0,rfl,by simpa using r0⟩
 put:=fun m x=>by
  cases x with
  |mk k n s t l=>simp only[dM,Pol.l,Pol.KA];exact⟨rfl,rfl⟩
 ups:=fun x=>⟨fun m=>by rw[Pol.KA];exact Pol.K3 _ _,trivial⟩
mutual
theorem Pol.Y5:∀ (x:Pol) (m:Int),(Pol.mD m x).2≤m+32 * (1+((Pol.szP x:Nat):Int))
 | .mk k n s t l,m=>by have:=Pol.WM l (m+1+1+1+1);simp only[Pol.mD,Pol.szP];omega
theorem Pol.WM:∀ (x:List Pol) (m:Int),(Pol.kD m x).2≤m+32 * ((x.length+Pol.rW x:Nat):Int)
 |[],m=>by simp[Pol.kD,Pol.rW]
 |p::ps,m=>by have:=Pol.Y5 p m;have:=Pol.WM ps (Pol.mD m p).2;simp only[Pol.kD,Pol.rW,List.length_cons];omega
end
instance:Cnt Pol:=⟨fun m x=>Pol.Y5 x m⟩
instance:Sz bM:=⟨fun x=>0⟩
instance:Mk bM:=⟨fun m x=>(⟨m,m+1,decide ((m+1+1).tmod 3=0)⟩,m+1+1+1)⟩
instance:Fld bM where
 f:=fun x=>[.i x.trace,.i x.stamp,.b x.keep]
 rep:=by
  intro h x cs F
  constructor
  ·rintro⟨rfl,rfl⟩;exact⟨_,rfl,⟨_,rfl,⟨_,rfl,⟨rfl,rfl⟩⟩⟩⟩
  ·rintro⟨_,rfl,⟨_,rfl,⟨_,rfl,⟨rfl,rfl⟩⟩⟩⟩;exact⟨rfl,rfl⟩
 put:=fun m x=>⟨rfl,rfl⟩
 ups:=fun x=>trivial
instance:Cnt bM:=⟨fun m x=>by
 show m+1+1+1≤m+32 * (1+((0:Nat):Int))
 omega⟩
instance:Sz Attr:=⟨fun x=>x.key.size+x.text.size⟩
instance:Mk Attr:=⟨fun m x=>(⟨mh (m),decide ((m+1).tmod 3=0),m+1+1,mh (m+1+1+1)⟩,m+1+1+1+1)⟩
instance:Fld Attr where
 f:=fun x=>[.s x.key,.b x.num,.i x.n,.s x.text]
 rep:=by
  intro h x cs F
  constructor
  ·rintro⟨rfl,rfl⟩;exact⟨_,rfl,⟨_,rfl,⟨_,rfl,⟨_,rfl,⟨rfl,rfl⟩⟩⟩⟩⟩
  ·rintro⟨_,rfl,⟨_,rfl,⟨_,rfl,⟨_,rfl,⟨rfl,rfl⟩⟩⟩⟩⟩;exact⟨rfl,rfl⟩
 put:=fun m x=>⟨rfl,rfl⟩
 ups:=fun x=>trivial
instance:Cnt Attr:=⟨fun m x=>by
 show m+1+1+1+1≤m+32 * (1+((x.key.size+x.text.size:Nat):Int))
 omega⟩
instance:Sz Span:=⟨fun x=>(x.attrs.length+szs x.attrs)⟩
instance:Mk Span:=⟨fun m x=>(⟨m,m+1,m+1+1,m+1+1+1,decide ((m+1+1+1+1).tmod 3=0),(mks (m+1+1+1+1+1) x.attrs).1⟩,(mks (m+1+1+1+1+1) x.attrs).2)⟩
instance:Fld Span where
 f:=fun x=>[.i x.trace,.i x.id,.i x.start,.i x.fin,.b x.err,.l inferInstance inferInstance x.attrs]
 rep:=by
  intro h x cs F
  constructor
  ·rintro⟨v0,rfl,r0⟩;exact⟨_,rfl,⟨_,rfl,⟨_,rfl,⟨_,rfl,⟨_,rfl,⟨v0,_,F,[],rfl,by simp,r0,⟨rfl,rfl⟩⟩⟩⟩⟩⟩⟩
  ·rintro⟨_,rfl,⟨_,rfl,⟨_,rfl,⟨_,rfl,⟨_,rfl,⟨v0,_,F0,_,rfl,rfl,r0,⟨rfl,rfl⟩⟩⟩⟩⟩⟩⟩;exact⟨v0,rfl,by simpa using r0⟩
 put:=fun m x=>⟨rfl,rfl⟩
 ups:=fun x=>⟨fun m=>cu _ m,trivial⟩
instance:Cnt Span:=⟨fun m x=>by
 show(mks (m+1+1+1+1+1) x.attrs).2≤m+32 * (1+(((x.attrs.length+szs x.attrs):Nat):Int))
 have:=fJ x.attrs (m+1+1+1+1+1)
 omega⟩
instance:Sz Timer:=⟨fun x=>0⟩
instance:Mk Timer:=⟨fun m x=>(⟨m,m+1,m+1+1⟩,m+1+1+1)⟩
instance:Fld Timer where
 f:=fun x=>[.i x.id,.i x.trace,.i x.at_]
 rep:=by
  intro h x cs F
  constructor
  ·rintro⟨rfl,rfl⟩;exact⟨_,rfl,⟨_,rfl,⟨_,rfl,⟨rfl,rfl⟩⟩⟩⟩
  ·rintro⟨_,rfl,⟨_,rfl,⟨_,rfl,⟨rfl,rfl⟩⟩⟩⟩;exact⟨rfl,rfl⟩
 put:=fun m x=>⟨rfl,rfl⟩
 ups:=fun x=>trivial
instance:Cnt Timer:=⟨fun m x=>by
 show m+1+1+1≤m+32 * (1+((0:Nat):Int))
 omega⟩
instance:Sz Trail:=⟨fun x=>(x.spans.length+szs x.spans)⟩
instance:Mk Trail:=⟨fun m x=>(⟨m,m+1,m+1+1,(mks (m+1+1+1) x.spans).1⟩,(mks (m+1+1+1) x.spans).2)⟩
instance:Fld Trail where
 f:=fun x=>[.i x.id,.i x.stamp,.i x.first,.l inferInstance inferInstance x.spans]
 rep:=by
  intro h x cs F
  constructor
  ·rintro⟨v0,rfl,r0⟩;exact⟨_,rfl,⟨_,rfl,⟨_,rfl,⟨v0,_,F,[],rfl,by simp,r0,⟨rfl,rfl⟩⟩⟩⟩⟩
  ·rintro⟨_,rfl,⟨_,rfl,⟨_,rfl,⟨v0,_,F0,_,rfl,rfl,r0,⟨rfl,rfl⟩⟩⟩⟩⟩;exact⟨v0,rfl,by simpa using r0⟩
 put:=fun m x=>⟨rfl,rfl⟩
 ups:=fun x=>⟨fun m=>cu _ m,trivial⟩
instance:Cnt Trail:=⟨fun m x=>by
 show(mks (m+1+1+1) x.spans).2≤m+32 * (1+(((x.spans.length+szs x.spans):Nat):Int))
 have:=fJ x.spans (m+1+1+1)
 omega⟩
instance:Sz aU:=⟨fun x=>(x.l.length+szs x.l)⟩
instance:Mk aU:=⟨fun m x=>(⟨m,(mks (m+1) x.l).1⟩,(mks (m+1) x.l).2)⟩
instance:Fld aU where
 f:=fun x=>[.i x.held,.l inferInstance inferInstance x.l]
 rep:=by
  intro h x cs F
  constructor
  ·rintro⟨v0,rfl,r0⟩;exact⟨_,rfl,⟨v0,_,F,[],rfl,by simp,r0,⟨rfl,rfl⟩⟩⟩
  ·rintro⟨_,rfl,⟨v0,_,F0,_,rfl,rfl,r0,⟨rfl,rfl⟩⟩⟩;exact⟨v0,rfl,by simpa using r0⟩
 put:=fun m x=>⟨rfl,rfl⟩
 ups:=fun x=>⟨fun m=>cu _ m,trivial⟩
instance:Cnt aU:=⟨fun m x=>by
 show(mks (m+1) x.l).2≤m+32 * (1+(((x.l.length+szs x.l):Nat):Int))
 have:=fJ x.l (m+1)
 omega⟩
instance:Sz Itm:=⟨fun x=>Sz.sz x.s⟩
instance:Mk Itm:=⟨fun m x=>(⟨m,⟨m+1,m+1+1,m+1+1+1,m+1+1+1+1,decide ((m+1+1+1+1+1).tmod 3=0),(mks (m+1+1+1+1+1+1) x.s.attrs).1⟩⟩,(mks (m+1+1+1+1+1+1) x.s.attrs).2)⟩
instance:Fld Itm where
 f:=fun x=>[.i x.stamp,.i x.s.trace,.i x.s.id,.i x.s.start,.i x.s.fin,.b x.s.err,.l inferInstance inferInstance x.s.attrs]
 rep:=by
  intro h x cs F
  constructor
  ·rintro⟨v0,rfl,r0⟩;exact⟨_,rfl,⟨_,rfl,⟨_,rfl,⟨_,rfl,⟨_,rfl,⟨_,rfl,⟨v0,_,F,[],rfl,by simp,r0,⟨rfl,rfl⟩⟩⟩⟩⟩⟩⟩⟩
  ·rintro⟨_,rfl,⟨_,rfl,⟨_,rfl,⟨_,rfl,⟨_,rfl,⟨_,rfl,⟨v0,_,F0,_,rfl,rfl,r0,⟨rfl,rfl⟩⟩⟩⟩⟩⟩⟩⟩;exact⟨v0,rfl,by simpa using r0⟩
 put:=fun m x=>⟨rfl,rfl⟩
 ups:=fun x=>⟨fun m=>cu _ m,trivial⟩
instance:Cnt Itm:=⟨fun m x=>by
 show(mks (m+1+1+1+1+1+1) x.s.attrs).2≤m+32 * (1+((Sz.sz x.s:Nat):Int))
 have:=fJ x.s.attrs (m+1+1+1+1+1+1)
 have e_s:Sz.sz x.s=(x.s.attrs.length+szs x.s.attrs):=rfl
 omega⟩
instance:Sz Task:=⟨fun x=>Sz.sz x.s+(x.hand.length+szs x.hand)⟩
instance:Mk Task:=⟨fun m x=>(⟨m,m+1,⟨m+1+1,m+1+1+1,m+1+1+1+1,m+1+1+1+1+1,decide ((m+1+1+1+1+1+1).tmod 3=0),(mks (m+1+1+1+1+1+1+1) x.s.attrs).1⟩,(mks (m+1+1+1+1+1+1+1) x.s.attrs).2,(mks (m+1+1+1+1+1+1+1) x.s.attrs).2+1,(mks ((mks (m+1+1+1+1+1+1+1) x.s.attrs).2+1+1) x.hand).1,(mks ((mks (m+1+1+1+1+1+1+1) x.s.attrs).2+1+1) x.hand).2⟩,(mks ((mks (m+1+1+1+1+1+1+1) x.s.attrs).2+1+1) x.hand).2+1)⟩
instance:Fld Task where
 f:=fun x=>[.i x.op,.i x.pc,.i x.s.trace,.i x.s.id,.i x.s.start,.i x.s.fin,.b x.s.err,.l inferInstance inferInstance x.s.attrs,.i x.trace,.i x.stamp,.l inferInstance inferInstance x.hand,.i x.h]
 rep:=by
  intro h x cs F
  constructor
  ·rintro⟨v0,v1,F0,F1,rfl,rfl,r0,r1⟩;exact⟨_,rfl,⟨_,rfl,⟨_,rfl,⟨_,rfl,⟨_,rfl,⟨_,rfl,⟨_,rfl,⟨v0,_,F0,F1++[],rfl,by simp,r0,⟨_,rfl,⟨_,rfl,⟨v1,_,F1,[],rfl,by simp,r1,⟨_,rfl,⟨rfl,rfl⟩⟩⟩⟩⟩⟩⟩⟩⟩⟩⟩⟩⟩
  ·rintro⟨_,rfl,⟨_,rfl,⟨_,rfl,⟨_,rfl,⟨_,rfl,⟨_,rfl,⟨_,rfl,⟨v0,_,F0,_,rfl,rfl,r0,⟨_,rfl,⟨_,rfl,⟨v1,_,F1,_,rfl,rfl,r1,⟨_,rfl,⟨rfl,rfl⟩⟩⟩⟩⟩⟩⟩⟩⟩⟩⟩⟩⟩;exact⟨v0,v1,F0,F1,rfl,by simp,r0,r1⟩
 put:=fun m x=>⟨rfl,rfl⟩
 ups:=fun x=>⟨fun m=>cu _ m,⟨fun m=>cu _ m,trivial⟩⟩
instance:Cnt Task:=⟨fun m x=>by
 show(mks ((mks (m+1+1+1+1+1+1+1) x.s.attrs).2+1+1) x.hand).2+1≤m+32 * (1+((Sz.sz x.s+(x.hand.length+szs x.hand):Nat):Int))
 have:=fJ x.s.attrs (m+1+1+1+1+1+1+1)
 have:=fJ x.hand ((mks (m+1+1+1+1+1+1+1) x.s.attrs).2+1+1)
 have e_s:Sz.sz x.s=(x.s.attrs.length+szs x.s.attrs):=rfl
 omega⟩
instance:Sz bN:=⟨fun x=>Sz.sz x.s⟩
instance:Mk bN:=⟨fun m x=>(⟨m,m+1,⟨m+1+1,m+1+1+1,m+1+1+1+1,m+1+1+1+1+1,decide ((m+1+1+1+1+1+1).tmod 3=0),(mks (m+1+1+1+1+1+1+1) x.s.attrs).1⟩,(mks (m+1+1+1+1+1+1+1) x.s.attrs).2,(mks (m+1+1+1+1+1+1+1) x.s.attrs).2+1,(mks (m+1+1+1+1+1+1+1) x.s.attrs).2+1+1,decide (((mks (m+1+1+1+1+1+1+1) x.s.attrs).2+1+1+1).tmod 3=0),decide (((mks (m+1+1+1+1+1+1+1) x.s.attrs).2+1+1+1+1).tmod 3=0),(mks (m+1+1+1+1+1+1+1) x.s.attrs).2+1+1+1+1+1,(mks (m+1+1+1+1+1+1+1) x.s.attrs).2+1+1+1+1+1+1,(mks (m+1+1+1+1+1+1+1) x.s.attrs).2+1+1+1+1+1+1+1,(mks (m+1+1+1+1+1+1+1) x.s.attrs).2+1+1+1+1+1+1+1+1,(mks (m+1+1+1+1+1+1+1) x.s.attrs).2+1+1+1+1+1+1+1+1+1,(mks (m+1+1+1+1+1+1+1) x.s.attrs).2+1+1+1+1+1+1+1+1+1+1,(mks (m+1+1+1+1+1+1+1) x.s.attrs).2+1+1+1+1+1+1+1+1+1+1+1⟩,(mks (m+1+1+1+1+1+1+1) x.s.attrs).2+1+1+1+1+1+1+1+1+1+1+1+1)⟩
instance:Fld bN where
 f:=fun x=>[.i x.op,.i x.task,.i x.s.trace,.i x.s.id,.i x.s.start,.i x.s.fin,.b x.s.err,.l inferInstance inferInstance x.s.attrs,.i x.trace,.i x.stamp,.i x.code,.b x.keep,.b x.void,.i x.took,.i x.n,.i x.forgot,.i x.now,.i x.inv,.i x.lin,.i x.res]
 rep:=by
  intro h x cs F
  constructor
  ·rintro⟨v0,rfl,r0⟩;exact⟨_,rfl,⟨_,rfl,⟨_,rfl,⟨_,rfl,⟨_,rfl,⟨_,rfl,⟨_,rfl,⟨v0,_,F,[],rfl,by simp,r0,⟨_,rfl,⟨_,rfl,⟨_,rfl,⟨_,rfl,⟨_,rfl,⟨_,rfl,⟨_,rfl,⟨_,rfl,⟨_,rfl,⟨_,rfl,⟨_,rfl,⟨_,rfl,⟨rfl,rfl⟩⟩⟩⟩⟩⟩⟩⟩⟩⟩⟩⟩⟩⟩⟩⟩⟩⟩⟩⟩⟩
  ·rintro⟨_,rfl,⟨_,rfl,⟨_,rfl,⟨_,rfl,⟨_,rfl,⟨_,rfl,⟨_,rfl,⟨v0,_,F0,_,rfl,rfl,r0,⟨_,rfl,⟨_,rfl,⟨_,rfl,⟨_,rfl,⟨_,rfl,⟨_,rfl,⟨_,rfl,⟨_,rfl,⟨_,rfl,⟨_,rfl,⟨_,rfl,⟨_,rfl,⟨rfl,rfl⟩⟩⟩⟩⟩⟩⟩⟩⟩⟩⟩⟩⟩⟩⟩⟩⟩⟩⟩⟩⟩;exact⟨v0,rfl,by simpa using r0⟩
 put:=fun m x=>⟨rfl,rfl⟩
 ups:=fun x=>⟨fun m=>cu _ m,trivial⟩
instance:Cnt bN:=⟨fun m x=>by
 show(mks (m+1+1+1+1+1+1+1) x.s.attrs).2+1+1+1+1+1+1+1+1+1+1+1+1≤m+32 * (1+((Sz.sz x.s:Nat):Int))
 have:=fJ x.s.attrs (m+1+1+1+1+1+1+1)
 have e_s:Sz.sz x.s=(x.s.attrs.length+szs x.s.attrs):=rfl
 omega⟩
instance:Sz Bucket:=⟨fun x=>0⟩
instance:Sz dN:=⟨fun x=>(x.near.length+szs x.near)+(x.far.length+szs x.far)+(x.rest.length+szs x.rest)⟩
instance:Sz fF:=⟨fun x=>Sz.sz x.rule⟩
instance:Sz Wld:=⟨fun x=>Sz.sz x.c+(x.st.length+szs x.st)+(x.cache.length+szs x.cache)+Sz.sz x.w+(x.due.length+szs x.due)+(x.queue.length+szs x.queue)+(x.out.length+szs x.out)+(x.tasks.length+szs x.tasks)+(x.aH.length+szs x.aH)⟩
end Go.Ab
end
section
set_option linter.unusedSimpArgs false
set_option linter.unusedVariables false
namespace Go.Ab
open Go.RowKit
section
variable{h h':AH}
theorem pv {a b:AV} (e:a=b) (x:Ext h h':=by exact aG):(1:Nat)=1∧[a]=[b]∧Ext h h':=⟨rfl,by rw[e],x⟩
theorem pb {a b:Bool} (e:a=b) (x:Ext h h':=by exact aG):(1:Nat)=1∧[AV.bool a]=[AV.bool b]∧Ext h h':=⟨rfl,by rw[e],x⟩
theorem pi {a b:Int} {q:IntKind} (e:a=b) (x:Ext h h':=by exact aG):(1:Nat)=1∧[AV.int q a]=[AV.int q b]∧Ext h h':=⟨rfl,by rw[e],x⟩
theorem pt {p:Prop} (e:p) (x:Ext h h':=by exact aG):(1:Nat)=1∧[AV.bool true]=[AV.bool (bp p)]∧Ext h h':=⟨rfl,by rw[eD e],x⟩
theorem pf {p:Prop} (e: ¬ p) (x:Ext h h':=by exact aG):(1:Nat)=1∧[AV.bool false]=[AV.bool (bp p)]∧Ext h h':=⟨rfl,by rw[fU e],x⟩
end
theorem KX {p:Prop} {b:Bool} (h:b=true↔p):b=bp p:=by
 by_cases hp:p
 ·rw[eD hp];exact h.2 hp
 ·rw[fU hp];cases b
  ·rfl
  ·exact absurd (h.1 rfl) hp
theorem oW {p:Prop} (h:bp p=true):p:=KF.1 h
theorem DX {p:Prop} (h:bp p=false): ¬ p:=fun hp=>by rw[eD hp] at h;cases h
section
variable{α:Type} {xs:List α} {p:Nat→α→Prop} {i:Nat} {y:α}
def bW (xs:List α) (p:Nat→α→Prop) (i:Nat):Prop:=∀ (j:Nat) (x:α),j < i→xs[j]? =some x→p j x
theorem up0:bW xs p 0:=fun j x hj=>by omega
theorem upS (h:bW xs p i) (hy:xs[i]? =some y) (hp:p i y):bW xs p (i+1):=fun j x hj hx=>by
 by_cases e:j=i
 ·subst e;rw[hy] at hx;cases hx;exact hp
 ·exact h j x (by omega) hx
theorem dX {p:α→Prop} (h:bW xs (fun _=>p) xs.length):∀ x∈xs,p x:=fun x hx=>by
 obtain⟨j,hj,e⟩:=List.getElem_of_mem hx
 exact h j x hj (by rw[List.getElem?_eq_getElem hj,e])
theorem iU (h:bW xs p xs.length):∀ j x,xs[j]? =some x→p j x:=fun j x hx=>h j x (List.getElem?_eq_some_iff.1 hx).1 hx
theorem gY {p:α→Prop} (hy:xs[i]? =some y) (hp: ¬ p y): ¬ ∀ x∈xs,p x:=fun h=>hp (h y (List.mem_of_getElem? hy))
end
section
variable{α:Type} [Cel α] {P:Program} {h h0:AH} {Q:Nat→List AV→AH→Prop} {k:AV→Prog}
theorem ixg {v:AV} {xs:List α} {F:List Nat} {es i:Nat} {q:IntKind} (hk:∀ x,xs[i]? =some x→∀ b o cs Fi,At h0 b o cs→Cel.rep h0 x cs Fi→(∀ y∈Fi,y∈F)→(k (.ptr b o)).awp P h Q) (r:au h0 v xs F:=by assumption) (hi:i < xs.length:=by omega) (hw:es=Cel.w α:=by rfl):(Prog.op (.idx es v (.int q i)) k).awp P h Q:=
 bS r (List.getElem?_eq_getElem hi) hw (hk _ (List.getElem?_eq_getElem hi))
theorem aL {v:AV} {xs:List α} {F:List Nat} {es:Nat} {i:Int} {q:IntKind} (hk:∀ x,xs[i.toNat]? =some x→∀ b o cs Fi,At h0 b o cs→Cel.rep h0 x cs Fi→(∀ y∈Fi,y∈F)→(k (.ptr b o)).awp P h Q) (r:au h0 v xs F:=by assumption) (h1:0≤i:=by omega) (hi:i.toNat < xs.length:=by omega) (hw:es=Cel.w α:=by rfl):(Prog.op (.idx es v (.int q i)) k).awp P h Q:=
 qV r h1 (List.getElem?_eq_getElem hi) hw (hk _ (List.getElem?_eq_getElem hi))
end
section
variable{P:Program} {h:AH} {Q:Nat→List AV→AH→Prop} {k:AV→Prog}
theorem aJ {p:Prog} (x':p.awp P h Q):p.awp P h Q:=x'
theorem aB (f:FuncId) {l:List AV} (x':(Prog.op (.call f l) k).awp P h Q):(Prog.op (.call f l) k).awp P h Q:=x'
theorem Kl {f:AV} {l:List AV} (x':(Prog.op (.fE f l) k).awp P h Q):(Prog.op (.fE f l) k).awp P h Q:=x'
end
def bys (s:ByteArray):List UInt8:=s.data.toList
theorem uY (s:ByteArray):(bys s).length=s.size:=by show s.data.toList.length=s.data.size;simp
theorem UW (s:ByteArray) (i:Nat):s[i]? =(bys s)[i]? :=by
 unfold bys
 rw[Array.getElem?_toList]
 by_cases h:i < s.size
 ·rw[getElem?_pos s i h,Array.getElem?_eq_getElem (by simpa using h)];rfl
 ·rw[getElem?_neg s i h,Array.getElem?_eq_none (by simpa using h)]
section
variable{P:Program} {h:AH} {Q:Nat→List AV→AH→Prop} {k:AV→Prog}
theorem sx {s:ByteArray} {i:Nat} {q:IntKind} (hk:∀ c:UInt8,(bys s)[i]? =some c→(k (.int .u8 (c.toNat:Int))).awp P h Q) (hi:i < s.size:=by omega):(Prog.op (.ig (.str s) (.int q i)) k).awp P h Q:=by
 have hb:=uY s
 simp only[Prog.awp,AOp.go]
 refine⟨Int.natCast_nonneg _,(bys s)[i]'(by omega),?_,hk _ (List.getElem?_eq_getElem (by omega))⟩
 rw[Int.toNat_natCast,UW]
 exact List.getElem?_eq_getElem (by omega)
theorem sx1 {s:ByteArray} {i:Nat} {q:IntKind} {c:UInt8} (hc:(bys s)[i]? =some c) (hk:(k (.int .u8 (c.toNat:Int))).awp P h Q):(Prog.op (.ig (.str s) (.int q i)) k).awp P h Q:=by
 simp only[Prog.awp,AOp.go]
 refine⟨Int.natCast_nonneg _,c,?_,hk⟩
 rw[Int.toNat_natCast,UW];exact hc
theorem D6 {c:UInt8} (hk:(k (.int .i64 (c.toNat:Int))).awp P h Q):(Prog.op (.conv .i64 (.int .u8 (c.toNat:Int))) k).awp P h Q:=by
 have hc:=c.toNat_lt
 refine U6 ?_
 rw[iA (by omega) (by omega)];exact hk
theorem EA {a b:ByteArray} (hk:(k (.bool (!(Op.bytesLess a.toList b.toList)))).awp P h Q):(Prog.op (.bin 1 .geq (.str a) (.str b)) k).awp P h Q:=hk
theorem EB {a:ByteArray} (hk:(k (.bool false)).awp P h Q):(Prog.op (.bin 1 .neq (.str a) (.str a)) k).awp P h Q:=Kq (fun h=>absurd rfl h) fun _=>hk
theorem D5 {q:IntKind} {a:Int} (hk:(k (.bool false)).awp P h Q):(Prog.op (.bin 0 .neq (.int q a) (.int q a)) k).awp P h Q:=vD (fun h=>absurd rfl h) fun _=>hk
theorem D7 {a:Bool} (hk:(k (.bool false)).awp P h Q):(Prog.op (.bin 2 .neq (.bool a) (.bool a)) k).awp P h Q:=Ew (by simpa using hk)
theorem Fu {a b:Int} (hk:(k (.int .i64 (max a b))).awp P h Q):(Prog.op (.mnx false [.int .i64 a,.int .i64 b]) k).awp P h Q:=by
 simp only[Prog.awp,AOp.go,qo,l6]
 have:(if a < b then b else a)=max a b:=by split<;>omega
 rw[if_neg (by decide),this];exact hk
theorem Fq {a b:Int} (hk:(k (.int .i64 (min a b))).awp P h Q):(Prog.op (.mnx true [.int .i64 a,.int .i64 b]) k).awp P h Q:=by
 simp only[Prog.awp,AOp.go,qo,l6]
 have:(if b < a then b else a)=min a b:=by split<;>omega
 rw[if_pos trivial,this];exact hk
theorem fP {f:FuncId} {args:List AV} {b:Int} {s:Nat} (c:aN P f args h (.int .i64 (szr b s))) (h1: ¬ (s:Int)≤b→(k (.int .i64 (-1))).awp P h Q) (h2:(s:Int)≤b→(k (.int .i64 (b - s))).awp P h Q):(Prog.op (.call f args) k).awp P h Q:=by
 refine aQ c ?_
 unfold szr
 split
 ·rename_i e;exact h2 e
 ·rename_i e;exact h1 e
end
end Go.Ab
end
section
set_option linter.unusedSimpArgs false
set_option linter.unusedVariables false
namespace Go.Ab
open Go.RowKit
theorem bI {α:Type} [Sz α]:∀ {xs:List α} {x:α},x∈xs→Sz.sz x≤szs xs
 |y::xs,x,h=>by
  rcases List.mem_cons.1 h with e|e
  ·subst e;simp[szs]
  ·have:=bI e;simp only[szs];omega
theorem JX {α:Type} [Sz α] (hz:∀ x:α,Sz.sz x=0):∀ xs:List α,szs xs=0
 |[]=>rfl
 |x::xs=>by simp only[szs,hz,JX hz xs]
section
variable{h:AH} {n m:Nat} {F G:List Nat}
theorem eu (o:Own n h (F++G)):Own n h F:=⟨(List.nodup_append.1 o.1).1,fun b hb=>o.2 b (List.mem_append_left _ hb)⟩
theorem aS (o:Own n h (F++G)):Own n h G:=⟨(List.nodup_append.1 o.1).2.1,fun b hb=>o.2 b (List.mem_append_right _ hb)⟩
theorem fC (o:Own n h (F++G)):∀ c∈F,c ∉ G:=fun c h1 h2=>(List.nodup_append.1 o.1).2.2 c h1 c h2 rfl
theorem fA (o:Own n h F) (p:Own m h G) (hn:n≤m) (d:∀ c∈F,c ∉ G):Own n h (F++G):=
 ⟨List.nodup_append.2 ⟨o.1,p.1,fun a ha b hb e=>d a ha (e▸hb)⟩,fun b hb=>by
  rcases List.mem_append.1 hb with hb|hb
  ·exact o.2 b hb
  ·exact⟨Nat.le_trans hn (p.2 b hb).1,(p.2 b hb).2⟩⟩
end
theorem dh {h:AH} {n:Nat} {F G:List Nat} (r:cO n h F) (r':cO n h G) (d:∀ c∈F,c ∉ G):cO n h (F++G):=al0 r r' (Nat.le_refl _) d
theorem bU {n:Nat} {h:AH} {F:List Nat} (r:cO n h F:=by(repeat(first|exact Ky|exact VY (by assumption) (by assumption) aP|with_reducible apply DL|with_reducible apply j6|((with_reducible apply kg);assumption)|((with_reducible apply bC);assumption)|exact oP|exact iw))):cO n h F:=r
def dZ {α:Type} [Cel α] (P:Program) (c:FuncId) (xs:List α):Prop:=∀ (v:AV) (F:List Nat) (h:AH),au h v xs F→cZ P c [v] h fun u h'=>Ext h h'∧∃ F',au h' u xs F'∧Own h.n h' F'
theorem mY {α:Type} [Cel α] [Sz α] {P:Program} {c e w bytes:Nat} {zero:List AV} (hw:w=Cel.w α) (hz:zero.length=w) (hb:bytes≤67108864) {xs:List α} (hs:xs.length+szs xs≤1048576)
  (hc:∀ x:α,Sz.sz x≤1048576→dA α P e x) (run:∀ {h:AH} {v:AV} {R:AV→AH→Prop},((La w bytes zero e v).awp P h fun t vs h'=>t=1∧∃ u,vs=[u]∧R u h')→cZ P c [v] h R):dZ P c xs:=by
 intro v F h r
 refine run (toSx_spec hw hz rfl (fun x hx=>hc x (by have:=bI hx;omega)) r ?_)
 have:xs.length * bytes≤1048576 * bytes:=Nat.mul_le_mul_right _ (by omega)
 omega
theorem ku {α:Type} [Cel α] [Sz α] {P:Program} {f:FuncId} (c:∀ xs:List α,xs.length+szs xs≤1048576→dZ P f xs) {xs:List α} {v:AV} {F:List Nat} {h:AH} (r:au h v xs F) (hs:xs.length+szs xs≤1048576):cZ P f [v] h fun u h'=>Ext h h'∧∃ F',au h' u xs F'∧Own h.n h' F':=c xs hs v F h r
def SzL (α:Type) [Cel α] [Sz α] (P:Program) (c:FuncId):Prop:=∀ (xs:List α) (_:∀ x∈xs,Cel.ok x) (v:AV) (F:List Nat) (b:Int) (h:AH),au h v xs F→0≤b→b≤1048576→aN P c [v,.int .i64 b] h (.int .i64 (szr b (xs.length+szs xs)))
theorem szl {α:Type} [Cel α] [Sz α] {P:Program} {f:FuncId} (c:SzL α P f) {xs:List α} {v:AV} {F:List Nat} {b:Int} {h:AH} (r:au h v xs F) (ok:∀ x∈xs,Cel.ok x) (h0:0≤b) (h1:b≤1048576):aN P f [v,.int .i64 b] h (.int .i64 (szr b (xs.length+szs xs))):=c xs ok v F b h r h0 h1
end Go.Ab
end
section
set_option linter.unusedSimpArgs false
set_option linter.unusedVariables false
namespace Go.Ab
open Go.RowKit
def sO {α:Type} (xs ys:List α) (i:Nat):Prop:=∀ (j:Nat) (x y:α),j < i→xs[j]? =some x→ys[j]? =some y→x=y
section
variable{α:Type} {xs ys:List α} {i:Nat} {x y:α}
theorem eu0:sO xs ys 0:=fun j x y hj=>by omega
theorem euS (h:sO xs ys i) (hx:xs[i]? =some x) (hy:ys[i]? =some y) (e:x=y):sO xs ys (i+1):=fun j u w hj hu hw=>by
 by_cases e':j=i
 ·subst e';rw[hx] at hu;rw[hy] at hw;cases hu;cases hw;exact e
 ·exact h j u w (by omega) hu hw
theorem KW (h:sO xs ys xs.length) (hl:xs.length=ys.length):xs=ys:=by
 apply List.ext_getElem hl
 intro j h1 h2
 exact h j _ _ h1 (List.getElem?_eq_getElem h1) (List.getElem?_eq_getElem h2)
theorem KV (hx:xs[i]? =some x) (hy:ys[i]? =some y) (e: ¬ x=y): ¬ xs=ys:=fun k=>by
 subst k;rw[hx] at hy;cases hy;exact e rfl
end
def Xc (w:Nat) (zero:List AV) (x0 x1 x2:AV):Prog:=.op (.len 0 x0) fun v=>.op (.len 0 x1) fun v_1=>.op (.bin 0 .neq v v_1) fun v=>.ite v (.fin [.val (AV.bool false)]) (.op (.len 0 x0) fun v=>.loop [AV.int .i64 0] (fun vs=>.op (.bin 0 .lss (g vs 0) v) fun v=>.ite v (.op (.idx w x0 (g vs 0)) fun v=>.op (.ldn w v) fun v=>.op (.alloc zero) fun v_2=>.op (.st w v_2 v) fun v=>.op (.idx w x1 (g vs 0)) fun v=>.op (.ldn w v) fun v=>.op (.alloc zero) fun v_3=>.op (.st w v_3 v) fun v=>.op (.ldn w v_2) fun v=>.op (.ldn w v_3) fun v_4=>.op (.fE x2 [v,v_4]) fun v=>.op (.una .not v) fun v=>.ite v (.fin [.val (AV.bool false)]) (.op (.bin 0 .add (g vs 0) (AV.int .i64 1)) fun v=>.leaf 0 [v])) (.leaf 2 [g vs 0])) fun t vs=>aA t 1 (.leaf 1 vs) (aA t 2 (.fin [.val (AV.bool true)]) .bad))
theorem uy {zero cs:List AV} (h:zero.length=cs.length):splice zero 0 cs=cs:=by
 unfold splice;rw[List.drop_of_length_le (by omega)];simp
section
variable{α:Type} [Cel α] {P:Program} {h:AH}
theorem akG {w:Nat} {zero:List AV} (hw:w=Cel.w α) (hz:zero.length=w) {xs ys:List α} {v0 v1:AV} {F G:List Nat} {f:FuncId} {caps:List AV} (r:au h v0 xs F) (r':au h v1 ys G)
  (hf:∀ x∈xs,∀ y,∀ (cs cs':List AV) (F F':List Nat) (h':AH),Ext h h'→Cel.rep h' x cs F→Cel.rep h' y cs' F'→aN P f ([.agg cs,.agg cs']++caps) h' (.bool (bp (x=y)))):
  (Xc w zero v0 v1 (.fn f caps)).awp P h (Post (.bool (bp (xs=ys))) h):=by
 subst hw
 have hpos:=Cel.pos (α:=α)
 have hsm:=r.small
 unfold Xc
 refine bQ r (bQ r' (vD (fun hne=>?_) (fun heq=>?_)))
 ·exact dH (dI (pf (by intro k;subst k;exact hne rfl)))
 ·refine dw (bQ r ?_)
  refine aY xs.length (fun i vs h1=>vs=[.int .i64 (i:Int)]∧i≤xs.length∧Ext h h1∧sO xs ys i) ⟨rfl,Nat.zero_le _,Ext.refl _,eu0⟩ ?_
  rintro i vs h1 _ ⟨rfl,hi,e1,hu⟩
  simp only[g0]
  refine fq (fun hlt=>dH ?_) (fun hge=>dw ?_)
  ·obtain⟨x,hx,-,-⟩:=aR (show i < xs.length by omega)
   obtain⟨y,hy,-,-⟩:=aR (show i < ys.length by omega)
   refine bS r hx rfl fun b o cs Fi a rx _=>?_
   have hl:=Cel.len rx
   refine fZ a e1 hpos (List.take_of_length_le (by omega)) hl (jI (vg rfl hl (by omega) ?_))
   rw[uy (by omega)]
   refine bS r' hy rfl fun b' o' cs' Fi' a' ry _=>?_
   have hl':=Cel.len ry
   refine fZ a' (e1.push _) hpos (List.take_of_length_le (by omega)) hl' (jI (vg rfl hl' (by omega) ?_))
   rw[uy (by omega)]
   refine fZ (iF.push _) (Ext.refl _) hpos (List.take_of_length_le (by omega)) hl (fZ iF (Ext.refl _) hpos (List.take_of_length_le (by omega)) hl' ?_)
   have e2:Ext h ((h1.push ⟨cs,0,0⟩).push ⟨cs',0,0⟩):=(e1.push _).push _
   refine oJ (hf x (List.mem_of_getElem? hx) y cs cs' Fi Fi' _ e2 (dW rx e2) (dW ry e2)) (vC ?_)
   refine vE (fun hp=>?_) (fun hp=>?_)
   ·exact dI (pf (KV hx hy (DX (by simpa using hp))) e2)
   ·exact fG (by omega) (dF (iQ ⟨by omega,rfl,by omega,e2,euS hu hx hy (oW (by simpa using hp))⟩))
  ·exact dF (kP (by decide) (kJ (by decide) (kK (dI (pt (KW (by rw[show i=xs.length by omega] at hu;exact hu) (by omega)) e1)))))
end
end Go.Ab
end
section
set_option linter.unusedSimpArgs false
set_option linter.unusedVariables false
namespace Go.Ab
open Go.RowKit
section
variable{α:Type} [Cel α] {P:Program} {h:AH} {Q:Nat→List AV→AH→Prop} {k:AV→Prog}
theorem gF {w:Nat} (hw:w=Cel.w α):au (h.push ⟨[],w,0⟩) (.sl h.n 0 0) ([]:List α) [h.n]∧∀ n,n≤h.n→Own n (h.push ⟨[],w,0⟩) [h.n]:=by
 subst hw
 exact⟨mV (n:=0) rfl (by decide) ⟨rfl,rfl⟩,fun n hn=>uN hn rfl (by simp) Own.nil⟩
theorem lq {n es bytes:Nat} {x:AV} {xs:List α} {a:α} {cs:List AV} {Fx G:List Nat} (rx:au h x xs Fx) (ra:Cel.rep h a cs G) (o:Own n h (Fx++G)) (hn:n≤h.n) (hw:es=Cel.w α) (hs:(xs.length+1) * bytes≤70368744177664) (hs2:xs.length+1 < 281474976710656)
  (hk:∀ v h' F',(∀ h0,Ext h0 h→h0.n≤n→Ext h0 h')→Kp h h' Fx→au h' v (xs++[a]) F'→Own n h' F'→(∀ c∈F',c∈Fx∨c∈G∨h.n≤c)→(k v).awp P h' Q):(Prog.op (.app es bytes x (.sl h.n 0 1)) k).awp P (h.push ⟨cs,es,0⟩) Q:=by
 subst hw
 have ry:=mV (n:=1) (xs:=[a]) rfl (by decide) (uM ra)
 refine Ey (n:=n) (qK rx) ry ?_ (by simp;omega) rfl (by simpa using hs) (by simpa using hs2) ?_
 ·simp only[List.tail_cons]
  refine o.ext ((Ext.refl h).push _) fun b hb=>?_
  rcases List.mem_append.1 hb with hb|hb
  ·exact rx.lt b hb
  ·exact Cel.lt ra b hb
 ·intro v h' F' kp r' o' hF
  have kp':Kp h h' Fx:=(Kp.jm ((Ext.refl h).push _)).trans kp
  refine hk v h' F' (fun h0 e hn0=>kp'.ext e fun b hb=>?_) kp' r' o' fun c hc=>?_
  ·have:=(o.2 b (List.mem_append_left _ hb)).1;omega
  ·rcases hF c hc with hc|hc|hc
   ·exact .inl hc
   ·exact .inr (.inl hc)
   ·exact .inr (.inr (Nat.le_trans (by simp) hc))
theorem app1 {n es bytes:Nat} {x:AV} {xs:List α} {a:α} {cs:List AV} {Fx G:List Nat} (rx:au h x xs Fx) (ra:Cel.rep h a cs G) (o:Own n h (Fx++G)) (hn:n≤h.n) (hw:es=Cel.w α) (hs:(xs.length+1) * bytes≤70368744177664) (hs2:xs.length+1 < 281474976710656)
  (hk:∀ v h' F',(∀ h0,Ext h0 h→h0.n≤n→Ext h0 h')→Kp h h' Fx→au h' v (xs++[a]) F'→Own n h' F'→(k v).awp P h' Q):(Prog.op (.app es bytes x (.sl h.n 0 1)) k).awp P (h.push ⟨cs,es,0⟩) Q:=by
 subst hw
 have ry:=mV (n:=1) (xs:=[a]) rfl (by decide) (uM ra)
 refine kW (n:=n) (qK rx) ry ?_ (by simp;omega) rfl (by simpa using hs) (by simpa using hs2) ?_
 ·simp only[List.tail_cons]
  refine o.ext ((Ext.refl h).push _) fun b hb=>?_
  rcases List.mem_append.1 hb with hb|hb
  ·exact rx.lt b hb
  ·exact Cel.lt ra b hb
 ·intro v h' F' kp r' o'
  have kp':Kp h h' Fx:=(Kp.jm ((Ext.refl h).push _)).trans kp
  refine hk v h' F' (fun h0 e hn0=>kp'.ext e fun b hb=>?_) kp' r' o'
  have:=(o.2 b (List.mem_append_left _ hb)).1;omega
theorem app0 {n es bytes:Nat} {y:AV} {ys:List α} {Fy:List Nat} (ry:au h y ys Fy) (o:Own n h Fy.tail) (hn:n≤h.n) (hw:es=Cel.w α) (hs:ys.length * bytes≤70368744177664)
  (hk:∀ v h' F',Ext h h'→au h' v ys F'→Own n h' F'→(k v).awp P h' Q):(Prog.op (.app es bytes .aF y) k).awp P h Q:=by
 have:=ry.small
 refine kW (n:=n) (xs:=[]) au.aF ry (by simpa using o) hn hw (by simpa using hs) (by simpa using this) ?_
 intro v h' F' kp r' o'
 exact hk v h' F' (kp.ext (Ext.refl _) (by simp)) r' o'
theorem GA {n es bytes:Nat} {y:AV} {ys:List α} {Fy:List Nat} (ry:au h y ys Fy) (o:Own n h Fy.tail) (hn:n≤h.n) (hw:es=Cel.w α) (hs:ys.length * bytes≤70368744177664)
  (hk:∀ v h' F',Ext h h'→au h' v ys F'→Own n h' F'→(k v).awp P h' Q):(Prog.op (.app es bytes (.sl h.n 0 0) y) k).awp P (h.push ⟨[],es,0⟩) Q:=by
 have hsm:=ry.small
 obtain⟨re,oe⟩:=gF (h:=h) (α:=α) hw
 have hlt:=ry.lt
 have Lm:∀ b∈Fy.tail,b < h.n:=fun b hb=>hlt b (List.mem_of_mem_tail hb)
 refine kW (n:=n) (xs:=[]) re (qK ry) ?_ (by simp;omega) hw (by simpa using hs) (by simpa using hsm) ?_
 ·exact uN hn rfl Lm o
 ·intro v h' F' kp r' o'
  exact hk v h' F' ⟨Nat.le_trans (by simp) kp.1,fun b hb=>by
   rw[kp.2 b (by simp;omega) (by simp;omega)]
   have:b≠h.n:=by omega
   simp[this]⟩ r' o'
end
section
variable{α:Type} [Flat α] {h:AH}
end
end Go.Ab
end
section
namespace Go.Ab
variable{h:AH} {P:Program} {Q:Nat→List AV→AH→Prop} {k:AV→Prog}
theorem alv {x:AV} {s:ByteArray} (hv:rQ h x=some s) (hl:vS h x) (hk:(k (.str s)).awp P h Q):(Prog.op (.qj x) k).awp P h Q:=by
 simp only[Prog.awp,AOp.go,hv];exact⟨hl,hk⟩
theorem akM {b:Nat} {n:Int} (hc:(h.get b).cells=[.int .u8 n]) (hl:live h b) (hk:(k (.str ⟨#[UInt8.ofNat n.toNat]⟩)).awp P h Q):(Prog.op (.qj (.sl b 0 1)) k).awp P h Q:=by
 refine alv (s:=⟨#[UInt8.ofNat n.toNat]⟩) ?_ hl hk
 simp[rQ,hc,pK]
 rfl
end Go.Ab
end
section
set_option linter.unusedSimpArgs false
set_option linter.unusedVariables false
namespace Go.Ab
open Go.RowKit
theorem ajO {α:Type} {xs:List α} {i:Nat} {x x':α} (hx:xs[i]? =some x):xs.set i x'=xs.take i++x'::xs.drop (i+1):=by
 have hi:=(List.getElem?_eq_some_iff.1 hx).1
 rw[List.set_eq_take_append_cons_drop,if_pos hi]
theorem xK {α:Type} {xs:List α} {i:Nat} {x:α} (hx:xs[i]? =some x):xs=xs.take i++x::xs.drop (i+1):=by
 obtain⟨y,hy,hd,-⟩:=aR (List.getElem?_eq_some_iff.1 hx).1
 rw[hx] at hy;cases hy
 rw[←hd,List.take_append_drop]
section
variable{α:Type} [Cel α] {h h':AH}
theorem bO.Dx:∀ {xs ys:List α} {cs:List AV} {F:List Nat},bO h (xs++ys) cs F→∃ c1 c2 F1 F2,cs=c1++c2∧F=F1++F2∧bO h xs c1 F1∧bO h ys c2 F2
 |[],ys,cs,F,r=>⟨[],cs,[],F,rfl,rfl,⟨rfl,rfl⟩,r⟩
 |x::xs,ys,cs,F,r=>by
  obtain⟨c1,c2,F1,F2,rfl,rfl,r1,r2⟩:=r
  obtain⟨d1,d2,G1,G2,rfl,rfl,q1,q2⟩:=bO.Dx r2
  exact⟨c1++d1,d2,F1++G1,G2,by simp,by simp,⟨c1,d1,F1,G1,rfl,rfl,r1,q1⟩,q2⟩
theorem au.zip {v:AV} {xs:List α} {F:List Nat} (r:au h v xs F) {i:Nat} {x:α} (hx:xs[i]? =some x):
  ∃ b off A E R F1 Fi F2,v= .sl b off xs.length∧F=b::(F1++(Fi++F2))∧b < h.n∧live h b∧(h.get b).es=Cel.w α∧(h.get b).cells=A++(E++R)∧A.length=off+i * Cel.w α∧Cel.rep h x E Fi∧
   ∀ (h':AH) (x':α) (E':List AV) (Fi':List Nat),(h'.get b).cells=A++(E'++R)→(h'.get b).es=Cel.w α→live h' b→b < h'.n→(∀ c∈F1++F2,h'.get c=h.get c∧c < h'.n)→Cel.rep h' x' E' Fi'→
    au h' v (xs.set i x') (b::(F1++(Fi'++F2))):=by
 have hi:i < xs.length:=(List.getElem?_eq_some_iff.1 hx).1
 rcases r with⟨_,h1,_⟩|⟨b,off,F',cs,e1,rfl,h1,h2,h3,h4,h5,h6,h7⟩
 ·omega
 ·have h7':=h7
  have hsp:xs=xs.take i++([x]++xs.drop (i+1)):=by simpa using xK hx
  rw[hsp] at h7'
  obtain⟨c1,c2,F1,F2,rfl,rfl,q1,q2⟩:=h7'.Dx
  obtain⟨E,c3,Fi,F3,rfl,rfl,q3,q4⟩:=q2
  have q3:Cel.rep h x E Fi:=q3
  have l1:=q1.length
  have l3:=Cel.len q3
  have l4:=bO.length (xs:=xs.drop (i+1)) q4
  rw[List.length_take,Nat.min_eq_left (by omega)] at l1
  rw[List.length_drop] at l4
  have hmul:xs.length * Cel.w α=i * Cel.w α+Cel.w α+(xs.length - (i+1)) * Cel.w α:=by
   rw[←Nat.succ_mul,←Nat.add_mul];congr 1;omega
  have hcells:(h.get b).cells=((h.get b).cells.take off++c1)++(E++(c3++(h.get b).cells.drop (off+xs.length * Cel.w α))):=by
   have:(h.get b).cells=(h.get b).cells.take off++((c1++(E++c3))++(h.get b).cells.drop (off+xs.length * Cel.w α)):=by
    rw[h6,←List.append_assoc,←List.take_add,List.take_append_drop]
   simpa using this
  refine⟨b,off,(h.get b).cells.take off++c1,E,c3++(h.get b).cells.drop (off+xs.length * Cel.w α),F1,Fi,F3,e1,rfl,h1,h2,h3,hcells,?_,q3,?_⟩
  ·rw[List.length_append,List.length_take,l1];omega
  ·intro h' x' E' Fi' g1 g2 g3 g4 g5 g6
   have lE:=Cel.len g6
   rw[ajO hx]
   refine .inr ⟨b,off,F1++(Fi'++F3),c1++(E'++c3),?_,rfl,g4,g3,g2,?_,?_,?_,?_⟩
   ·rw[e1];congr 1
    simp only[List.length_append,List.length_take,List.length_cons,List.length_drop];omega
   ·rw[g1]
    simp only[List.length_append,List.length_take,List.length_cons,List.length_drop,lE,l1,l4]
    have:(min i xs.length+(xs.length - (i+1)+1))=xs.length:=by omega
    rw[this,hmul]
    omega
   ·simp only[List.length_append,List.length_take,List.length_cons,List.length_drop];omega
   ·rw[g1]
    have e2:(List.take i xs++x'::List.drop (i+1) xs).length=xs.length:=by simp only[List.length_append,List.length_take,List.length_cons,List.length_drop];omega
    rw[e2]
    have e3:((h.get b).cells.take off).length=off:=by rw[List.length_take];omega
    have e4:(c1++(E'++c3)).length=xs.length * Cel.w α:=by rw[List.length_append,List.length_append,l1,lE,l4,hmul];omega
    rw[show((h.get b).cells.take off++c1)++(E'++(c3++(h.get b).cells.drop (off+xs.length * Cel.w α)))=(h.get b).cells.take off++((c1++(E'++c3))++(h.get b).cells.drop (off+xs.length * Cel.w α)) by simp]
    rw[List.drop_left' e3,←e4,List.take_left]
   ·have k1:bO h' (xs.take i) c1 F1:=q1.keep fun c hc=>g5 c (List.mem_append_left _ hc)
    have k2:bO h' (xs.drop (i+1)) c3 F3:=bO.keep (xs:=xs.drop (i+1)) q4 fun c hc=>g5 c (List.mem_append_right _ hc)
    exact k1.append ⟨E',c3,Fi',F3,rfl,rfl,g6,k2⟩
end
section
variable{P:Program} {h:AH} {Q:Nat→List AV→AH→Prop} {k:AV→Prog}
theorem Fj {n b o j es:Nat} {A E E' R xs:List AV} {x:AV} (hg:h.get b=⟨A++(E++R),es,0⟩) (ho:A.length=o) (hx:x.cells? =some xs) (hn:xs.length=n) (s:SP E j xs E') (hk:(k (.tup [])).awp P (h.upd b ⟨A++(E'++R),es,0⟩) Q):
  (Prog.op (.st n (.ptr b (o+j)) x) k).awp P h Q:=by
 obtain⟨s1,rfl⟩:=s
 subst ho hn
 refine rR (by simp[mine,hg]) hx rfl (by rw[hg];simp only[List.length_append];omega) ?_
 have:splice (A++(E++R)) (A.length+j) xs=A++(splice E j xs++R):=by
  have e1:A++(E++R)=(A++E.take j)++(E.drop j++R):=by
   rw[List.append_assoc,←List.append_assoc (E.take j),List.take_append_drop]
  rw[e1,oD (A:=A++E.take j) (by simp;omega) (by simp;omega),List.drop_append_of_le_length (by simp;omega),List.drop_drop]
  unfold splice
  simp
 rw[hg];simp only[this];exact hk
theorem LG {b es st:Nat} {A E R:List AV} {o:Nat} (hb:b < h.n) (hl:live h b) (hg:(h.get b).cells=A++(E++R)) (ho:A.length=o):At h b o E:=by
 subst ho
 exact⟨hb,hl,by rw[hg];simp⟩
end
theorem mW {α:Type} [Flat α] {h0 h:AH} {v:AV} {xs:List α} {F:List Nat} (r:au h0 v xs F) (n:Nat):Own n h F.tail:=by
 rcases r.flat with⟨_,_,rfl⟩|⟨b,_,_,_,rfl,_⟩<;>exact Own.nil
section
variable{α:Type} [Cel α] {P:Program} {h h0:AH} {Q:Nat→List AV→AH→Prop} {k:AV→Prog}
theorem Us {n:Nat} {b:Nat} {A B C:List Nat} (o:Own n h (b::(A++(B++C)))):Own n h B:=
 ⟨(List.nodup_append.1 (List.nodup_append.1 (List.nodup_cons.1 o.1).2).2.1).1,fun c hc=>o.2 c (by simp[hc])⟩
theorem akq {n:Nat} {F G:List Nat} (o:Own n h (F++G)):Own n h (F++G.tail):=by
 cases G with
 |nil=>exact o
 |cons b G=>
  have h1:=List.nodup_append.1 o.1
  exact⟨List.nodup_append.2 ⟨h1.1,(List.nodup_cons.1 h1.2.1).2,fun a ha c hc e=>h1.2.2 a ha c (List.mem_cons_of_mem _ hc) e⟩,fun c hc=>o.2 c (by
   rcases List.mem_append.1 hc with hc|hc
   ·simp[hc]
   ·simp[show c∈G from hc])⟩
theorem amX {n es bytes:Nat} {x y:AV} {xs ys:List α} {Fx Fy:List Nat} (rx:au h x xs Fx) (ry:au h y ys Fy) (o:Own n h (Fx++Fy)) (hn:n≤h.n) (hw:es=Cel.w α) (hb:(xs.length+ys.length) * bytes≤70368744177664) (hs:xs.length+ys.length < 281474976710656)
  (hk:∀ v h' F',(∀ h0,Ext h0 h→h0.n≤n→Ext h0 h')→Kp h h' Fx→au h' v (xs++ys) F'→Own n h' F'→(k v).awp P h' Q):(Prog.op (.app es bytes x y) k).awp P h Q:=by
 refine kW rx ry (akq o) hn hw hb hs fun v h' F' kp r' o'=>hk v h' F' (fun h0 e hn0=>kp.ext e fun b hb=>?_) kp r' o'
 have:=(o.2 b (List.mem_append_left _ hb)).1;omega
end
section
variable{α:Type} [Flat α] {P:Program} {h:AH} {Q:Nat→List AV→AH→Prop} {k:AV→Prog}
theorem nL {n es bytes:Nat} {x y:AV} {xs ys:List α} {Fx Fy:List Nat} (rx:au h x xs Fx) (ry:au h y ys Fy) (o:Own n h Fx) (hn:n≤h.n) (hw:es=Cel.w α) (hb:(xs.length+ys.length) * bytes≤70368744177664) (hs:xs.length+ys.length < 281474976710656)
  (hk:∀ v h' F',(∀ h0,Ext h0 h→h0.n≤n→Ext h0 h')→Kp h h' Fx→au h' v (xs++ys) F'→Own n h' F'→(k v).awp P h' Q):(Prog.op (.app es bytes x y) k).awp P h Q:=by
 have ht:Fy.tail=[]:=by rcases ry.flat with⟨_,_,rfl⟩|⟨b,_,_,_,rfl,_⟩<;>rfl
 refine kW rx ry (by rw[ht,List.append_nil];exact o) hn hw hb hs fun v h' F' kp r' o'=>hk v h' F' (fun h0 e hn0=>kp.ext e fun b hb=>?_) kp r' o'
 have:=(o.2 b hb).1;omega
end
section
variable{α:Type} [Cel α] {P:Program} {h:AH}
theorem VF {w:Nat} {zero cs:List AV} (hz:zero.length=w) (hc:cs.length=w):dK zero [(0,w,.agg cs)]=some cs:=by
 simp only[dK,AV.cells?]
 rw[if_pos ⟨hc,by omega⟩,uy (by omega)]
def VQ (w bytes:Nat) (zero:List AV) (c:Nat) (x0:AV):Prog:=.op (.len 0 x0) fun v1=>.loop [AV.aF,AV.int .i64 0] (fun vs2=>.op (.bin 0 .lss (g vs2 1) v1) fun v4=>.ite v4 (.op (.idx w x0 (g vs2 1)) fun v5=>.op (.ldn w v5) fun v6=>.op (.alloc zero) fun v7=>.op (.st w v7 v6) fun v8=>.op (.ldn w v7) fun v9=>.op (.call c [v9]) fun v10=>.op (.bE w 1 zero [(0,w,v10)]) fun v11=>.op (.app w bytes (g vs2 0) v11) fun v12=>.op (.bin 0 .add (g vs2 1) (AV.int .i64 1)) fun v13=>.leaf 0 [v12,v13]) (.leaf 2 [g vs2 0,g vs2 1])) fun t3 vs2=>aA t3 1 (.leaf 1 vs2) (aA t3 2 (.fin [.val (g vs2 0)]) .bad)
theorem SV {w bytes c:Nat} {zero:List AV} (hw:w=Cel.w α) (hz:zero.length=w) (hw2:w≤1000) {xs:List α} (hc:∀ x∈xs,dA α P c x) {x0:AV} {F:List Nat} (r:au h x0 xs F) (hs:xs.length * bytes≤70368744177664):
  (VQ w bytes zero c x0).awp P h fun t vs h'=>t=1∧∃ u,vs=[u]∧sM α h xs u h':=by
 subst hw
 unfold VQ
 have hsm:=r.small
 have hpos:=Cel.pos (α:=α)
 refine bQ r ?_
 refine aY xs.length (fun i vs h1=>∃ u G,vs=[u,.int .i64 (i:Int)]∧i≤xs.length∧Ext h h1∧au h1 u (xs.take i) G∧Own h.n h1 G) ⟨.aF,[],rfl,Nat.zero_le _,Ext.refl _,au.aF,Own.nil⟩ ?_
 rintro i vs h1 _ ⟨u,G,rfl,hi,e1,ru,ou⟩
 simp only[g0,g1]
 refine fq (fun hlt=>dH ?_) (fun hge=>dw ?_)
 ·obtain⟨x,hx,-,htk⟩:=aR (show i < xs.length by omega)
  refine bS r hx rfl fun b o cs Fi a rx _=>?_
  have hl:=Cel.len rx
  refine fZ a e1 hpos (List.take_of_length_le (by omega)) hl (jI (vg rfl hl (by omega) ?_))
  rw[uy (by omega)]
  refine fZ iF (Ext.refl _) hpos (List.take_of_length_le (by omega)) hl ?_
  have e2:=e1.push ⟨cs,0,0⟩
  refine aT (hc x (List.mem_of_getElem? hx) cs Fi _ (dW rx e2)) ?_
  rintro _ h2 ⟨e3,cs',G2,rfl,rx',o2⟩
  have n3:=e3.1
  simp only[aO] at n3
  refine uJ (VF hz (Cel.len rx')) (by omega) (by rw[Cel.len rx',Nat.one_mul]) ?_
  have ru2:au h2 u (xs.take i) G:=(ru.ext ((Ext.refl h1).push _)).ext e3
  have hlen:(xs.take i).length=i:=by rw[List.length_take];omega
  have o3:Own h.n h2 (G++G2):=by
   refine fA ((ou.ext ((Ext.refl h1).push _) ru.lt).ext e3 fun b hb=>by have:=ru.lt b hb;simp;omega) o2 (by have:=e1.1;simp only[aO];omega) fun c h1 h2=>?_
   have:=ru.lt c h1;have:=(o2.2 c h2).1;simp only[aO] at this;omega
  refine app1 (n:=h.n) ru2 rx' o3 (by have:=e1.1;omega) rfl ?_ (by rw[hlen];omega) ?_
  ·rw[hlen];exact Nat.le_trans (Nat.mul_le_mul_right _ (by omega)) hs
  ·intro u' h' F' ek kp r' o'
   refine fG (by omega) (dF (iQ ⟨by omega,u',F',rfl,by omega,ek h (e2.trans e3) (Nat.le_refl _),by rw[htk];exact r',o'⟩))
 ·exact dF (kP (by decide) (kJ (by decide) (kK (dI ⟨rfl,u,rfl,e1,G,by rw[show i=xs.length by omega,List.take_length] at ru;exact ru,ou⟩))))
def VP (w bytes:Nat) (zero:List AV) (c:Nat) (x0:AV):Prog:=.op (.bE w 0 [] []) fun v1=>.loop [v1,AV.int .i64 0] (fun vs2=>.op (.len 0 x0) fun v4=>.op (.bin 0 .lss (g vs2 1) v4) fun v5=>.ite v5 (.op (.idx w x0 (g vs2 1)) fun v6=>.op (.ldn w v6) fun v7=>.op (.call c [v7]) fun v8=>.op (.alloc zero) fun v9=>.op (.st w v9 v8) fun v10=>.op (.ldn w v9) fun v11=>.op (.bE w 1 zero [(0,w,v11)]) fun v12=>.op (.app w bytes (g vs2 0) v12) fun v13=>.op (.bin 0 .add (g vs2 1) (AV.int .i64 1)) fun v14=>.leaf 0 [v13,v14]) (.leaf 2 [g vs2 0,g vs2 1])) fun t3 vs2=>aA t3 1 (.leaf 1 vs2) (aA t3 2 (.fin [.val (g vs2 0)]) .bad)
theorem JO {w bytes c:Nat} {zero:List AV} (hw:w=Cel.w α) (hz:zero.length=w) (hw2:w≤1000) {xs:List α} (hc:∀ x∈xs,dA α P c x) {x0:AV} {F:List Nat} (r:au h x0 xs F) (hs:xs.length * bytes≤70368744177664):
  (VP w bytes zero c x0).awp P h fun t vs h'=>t=1∧∃ u,vs=[u]∧sM α h xs u h':=by
 subst hw
 unfold VP
 have hsm:=r.small
 have hpos:=Cel.pos (α:=α)
 obtain⟨re,oe⟩:=gF (h:=h) (α:=α) (w:=Cel.w α) rfl
 refine uJ rfl (by omega) (by simp) ?_
 refine aY xs.length (fun i vs h1=>∃ u G,vs=[u,.int .i64 (i:Int)]∧i≤xs.length∧Ext h h1∧au h1 u (xs.take i) G∧Own h.n h1 G) ⟨_,_,rfl,Nat.zero_le _,(Ext.refl _).push _,by rw[List.take_zero];exact re,oe _ (Nat.le_refl _)⟩ ?_
 rintro i vs h1 _ ⟨u,G,rfl,hi,e1,ru,ou⟩
 simp only[g0,g1]
 refine bQ r (fq (fun hlt=>dH ?_) (fun hge=>dw ?_))
 ·obtain⟨x,hx,-,htk⟩:=aR (show i < xs.length by omega)
  refine bS r hx rfl fun b o cs Fi a rx _=>?_
  have hl:=Cel.len rx
  refine fZ a e1 hpos (List.take_of_length_le (by omega)) hl ?_
  refine aT (hc x (List.mem_of_getElem? hx) cs Fi _ (dW rx e1)) ?_
  rintro _ h2 ⟨e3,cs',G2,rfl,rx',o2⟩
  have n3:=e3.1
  have hl2:=Cel.len rx'
  refine jI (vg rfl hl2 (by omega) ?_)
  rw[uy (by omega)]
  refine fZ iF (Ext.refl _) hpos (List.take_of_length_le (by omega)) hl2 ?_
  have e4:=(Ext.refl h2).push ⟨cs',0,0⟩
  refine uJ (VF hz hl2) (by omega) (by rw[hl2,Nat.one_mul]) ?_
  have ru2:au h2 u (xs.take i) G:=ru.ext e3
  have hlen:(xs.take i).length=i:=by rw[List.length_take];omega
  have o3:Own h.n h2 (G++G2):=by
   refine fA (ou.ext e3 ru.lt) o2 e1.1 fun c h1 h2=>?_
   have:=ru.lt c h1;have:=(o2.2 c h2).1;omega
  refine app1 (n:=h.n) (ru2.ext e4) (dW rx' e4) (o3.ext e4 fun b hb=>?_) (by have:=e1.1;simp only[aO];omega) rfl ?_ (by rw[hlen];omega) ?_
  ·rcases List.mem_append.1 hb with hb|hb
   ·exact ru2.lt b hb
   ·exact Cel.lt rx' b hb
  ·rw[hlen];exact Nat.le_trans (Nat.mul_le_mul_right _ (by omega)) hs
  ·intro u' h' F' ek kp r' o'
   refine fG (by omega) (dF (iQ ⟨by omega,u',F',rfl,by omega,ek h ((e1.trans e3).trans e4) (Nat.le_refl _),by rw[htk];exact r',o'⟩))
 ·exact dF (kP (by decide) (kJ (by decide) (kK (dI ⟨rfl,u,rfl,e1,G,by rw[show i=xs.length by omega,List.take_length] at ru;exact ru,ou⟩))))
end
end Go.Ab
end
section
set_option linter.unusedSimpArgs false
set_option linter.unusedVariables false
namespace Go.Ab
open Go.RowKit
section
variable{P:Program} {h:AH} {Q:Nat→List AV→AH→Prop} {k:AV→Prog}
theorem Tm {b off ln es bytes n:Nat} {y:AV} {new:List AV} (hm:mine h b) (he:es≠0) (hes:(h.get b).es=es) (hy:j5 h es y=some new) (hn:jN y=some n) (hl:yL h y) (hfit:off+(ln+n) * es≤(h.get b).cells.length)
  (hk:(k (.sl b off (ln+n))).awp P (h.upd b {h.get b with cells:=splice (h.get b).cells (off+ln * es) new}) Q):(Prog.op (.app es bytes (.sl b off ln) y) k).awp P h Q:=by
 simp only[Prog.awp,AOp.go,hy,hn]
 refine⟨hm,hl,he,hes,?_⟩
 rw[if_pos hfit];exact hk
theorem aj5 {b off len es i j:Nat} (he:es≠0) (h1:(h.get b).es=es) (h2:mine h b) (h3:off+len * es≤(h.get b).cells.length) (hij:i≤j) (hj:off+j * es≤(h.get b).cells.length) (hk:(k (.sl b (off+i * es) (j - i))).awp P h Q):
  (Prog.op (.slc es (.sl b off len) (some (.int .i64 (i:Int))) (some (.int .i64 (j:Int))) none) k).awp P h Q:=by
 simp only[Prog.awp,AOp.go,bnd,nG]
 refine⟨he,h1,h2,h3,Int.natCast_nonneg _,by omega,by simpa using hj,?_⟩
 have:((j:Int) - (i:Int)).toNat=j - i:=by omega
 simpa[this] using hk
theorem alr {b off len:Nat} {i j m:Int} (h0:0≤i) (h1:i≤j) (h2:j≤m) (h3:m≤len) (hk:(k .un).awp P h Q):
  (Prog.op (.vW (.sl b off len) (some (.int .i64 i)) (some (.int .i64 j)) (.int .i64 m)) k).awp P h Q:=by
 simp only[Prog.awp,AOp.go,bnd,nG]
 exact⟨rfl,h0,h1,h2,h3,hk⟩
end
def Xd (w bytes:Nat) (zero:List AV) (x0 x1 x2:AV):Prog:=.op (.len 0 x0) fun v1=>.op (.vW x0 (some x1) (some x2) v1) fun v2=>.op (.bin 0 .eql x1 x2) fun v3=>.ite v3 (.fin [.val x0]) (.op (.len 0 x0) fun v4=>.op (.slc w x0 none (some x1) none) fun v5=>.op (.slc w x0 (some x2) none none) fun v6=>.op (.app w bytes v5 v6) fun v7=>.op (.len 0 v7) fun v8=>.op (.slc w v7 (some v8) (some v4) none) fun v9=>.op (.clr w zero v9) fun v10=>.fin [.val v7])
theorem RX {β:Type} {xs:List β} {i:Nat} (hi:i < xs.length):xs.eraseIdx i=xs.take i++xs.drop (i+1):=List.eraseIdx_eq_take_drop_succ ..
theorem aj3 {pre c1 E c2 post zero:List AV} {w:Nat} (hE:E.length=w) (hz:zero.length=w):
  splice (splice (pre++(c1++(E++(c2++post)))) (pre.length+c1.length) c2) (pre.length+c1.length+c2.length) zero=pre++(c1++(c2++(zero++post))):=by
 have e1:splice (pre++(c1++(E++(c2++post)))) (pre.length+c1.length) c2=(pre++c1)++c2++(E++(c2++post)).drop c2.length:=by
  rw[show pre++(c1++(E++(c2++post)))=(pre++c1)++(E++(c2++post)) by simp]
  exact oD (by simp) (by simp;omega)
 rw[e1]
 have e2:(E++(c2++post)).drop c2.length=(E++c2).drop c2.length++post:=by
  rw[←List.append_assoc,List.drop_append_of_le_length (by simp)]
 have e3:((E++c2).drop c2.length).length=w:=by simp[hE]
 rw[e2,oD (A:=(pre++c1)++c2) (by simp;omega) (by rw[List.length_append,e3,hz];omega)]
 rw[hz,←e3,List.drop_left]
 simp
section
variable{α:Type} [Cel α] {P:Program} {h:AH}
theorem akK {w bytes i n:Nat} {zero:List AV} (hw:w=Cel.w α) (hz:zero.length=w) {xs:List α} {v:AV} {F:List Nat} (r:au h v xs F) (o:Own n h F) (hi:i < xs.length):
  (Xd w bytes zero v (.int .i64 (i:Int)) (.int .i64 ((i+1:Nat):Int))).awp P h fun t vs h'=>t=1∧∃ u,vs=[u]∧Kp h h' F∧∃ F',au h' u (xs.eraseIdx i) F'∧Own n h' F'∧∀ c∈F',c∈F:=by
 subst hw
 have hpos:=Cel.pos (α:=α)
 have hsm:=r.small
 obtain⟨x,hx,-,-⟩:=aR hi
 unfold Xd
 refine bQ r ?_
 rcases r with⟨_,h1,_⟩|⟨b,off,F',cs,e1,rfl,h1,h2,h3,h4,h5,h6,h7⟩
 ·omega
 subst e1
 have hm:mine h b:=(o.2 b (by simp)).2
 have h7':=h7
 have hsp:xs=xs.take i++([x]++xs.drop (i+1)):=by simpa using xK hx
 rw[hsp] at h7'
 obtain⟨c1,c23,F1,F23,rfl,rfl,q1,q2⟩:=h7'.Dx
 obtain⟨E,c2,Fi,F2,rfl,rfl,q3,q4⟩:=q2
 have q3:Cel.rep h x E Fi:=q3
 have l1:=q1.length
 have l3:=Cel.len q3
 have l4:=bO.length (xs:=xs.drop (i+1)) q4
 rw[List.length_take,Nat.min_eq_left (by omega)] at l1
 rw[List.length_drop] at l4
 have hmul:xs.length * Cel.w α=i * Cel.w α+Cel.w α+(xs.length - (i+1)) * Cel.w α:=by
  rw[←Nat.succ_mul,←Nat.add_mul];congr 1;omega
 have KT:(i+1) * Cel.w α=i * Cel.w α+Cel.w α:=Nat.succ_mul _ _
 obtain⟨pre,post,hcells,hpre⟩:∃ pre post,(h.get b).cells=pre++(c1++(E++(c2++post)))∧pre.length=off:=by
  refine⟨(h.get b).cells.take off,(h.get b).cells.drop (off+xs.length * Cel.w α),?_,by rw[List.length_take];omega⟩
  have:(h.get b).cells=(h.get b).cells.take off++((c1++(E++c2))++(h.get b).cells.drop (off+xs.length * Cel.w α)):=by
   rw[h6,←List.append_assoc,←List.take_add,List.take_append_drop]
  simpa using this
 have hst:(h.get b).st=0:=hm
 refine alr (by omega) (by omega) (by omega) (by omega) ?_
 refine vF (fun h=>by omega) (fun _=>dw ?_)
 refine JG (JV (by omega) h3 hm h4 (by omega) (uI (by omega) h3 hm h4 (by omega) ?_))
 have hnew:j5 h (Cel.w α) (.sl b (off+(i+1) * Cel.w α) (xs.length - (i+1)))=some c2:=by
  simp only[j5]
  rw[if_pos (by rw[KT];omega),hcells]
  congr 1
  rw[show pre++(c1++(E++(c2++post)))=(pre++(c1++E))++(c2++post) by simp,show off+(i+1) * Cel.w α=(pre++(c1++E)).length by simp only[List.length_append];omega,List.drop_left,←l4,List.take_left]
 have hlen1:i+(xs.length - (i+1))=xs.length - 1:=by omega
 have amL:(xs.length - 1) * Cel.w α+Cel.w α=xs.length * Cel.w α:=by rw[←Nat.succ_mul];congr 1;omega
 refine Tm hm (by omega) h3 hnew rfl (.inr h2) (by rw[hlen1];omega) ?_
 rw[hlen1]
 refine JG ?_
 have hL1:(splice (h.get b).cells (off+i * Cel.w α) c2).length=(h.get b).cells.length:=Ca _ _ _ (by rw[l4];omega)
 refine aj5 (by omega) (by simpa using h3) (by simpa[mine] using hst) (by simp only[eO,if_true,hL1];omega) (by omega) (by simp only[eO,if_true,hL1];omega) ?_
 rw[show xs.length - (xs.length - 1)=1 by omega]
 refine VD (by simpa[mine] using hst) hz (by simp only[eO,if_true,hL1];omega) ?_
 simp only[eO,if_true,akO,List.replicate_one,List.flatten_cons,List.flatten_nil,List.append_nil]
 have hfin:splice (splice (h.get b).cells (off+i * Cel.w α) c2) (off+(xs.length - 1) * Cel.w α) zero=pre++(c1++(c2++(zero++post))):=by
  rw[hcells,show off+i * Cel.w α=pre.length+c1.length by omega,show off+(xs.length - 1) * Cel.w α=pre.length+c1.length+c2.length by omega]
  exact aj3 l3 hz
 rw[hfin]
 have hnb:b ∉ F1++(Fi++F2):=(List.nodup_cons.1 o.1).1
 have keep:∀ c∈F1++(Fi++F2),(h.upd b ⟨pre++(c1++(c2++(zero++post))),(h.get b).es,(h.get b).st⟩).get c=h.get c:=fun c hc=>by
  have:c≠b:=fun e=>hnb (e▸hc)
  simp[this]
 have hes:(xs.eraseIdx i).length=xs.length - 1:=by rw[List.length_eraseIdx,if_pos hi]
 refine dI ⟨rfl,_,rfl,?_,b::(F1++F2),.inr ⟨b,off,F1++F2,c1++c2,by rw[hes],rfl,by simpa using h1,by simpa[live] using h2,by simpa using h3,?_,by omega,?_,?_⟩,?_,?_⟩
 ·exact⟨Nat.le_refl _,fun c _ hX=>by have:c≠b:=fun e=>hX (by simp[e]);simp[this]⟩
 ·simp only[eO,if_true,List.length_append];rw[hes];omega
 ·simp only[eO,if_true]
  rw[hes,←hpre,List.drop_left,show(xs.length - 1) * Cel.w α=(c1++c2).length by simp only[List.length_append];omega,←List.append_assoc c1,List.take_left]
 ·rw[RX hi]
  exact(q1.keep fun c hc=>⟨keep c (by simp[hc]),by simpa using q1.lt c hc⟩).append (bO.keep (xs:=xs.drop (i+1)) q4 fun c hc=>⟨keep c (by simp[hc]),by simpa using bO.lt (xs:=xs.drop (i+1)) q4 c hc⟩)
 ·have hnd:=List.nodup_cons.1 o.1
  have lD:=List.nodup_append.1 hnd.2
  have mE:=List.nodup_append.1 lD.2.1
  refine⟨List.nodup_cons.2 ⟨fun hc=>hnb (by simp at hc ⊢;rcases hc with hc|hc<;>simp[hc]),List.nodup_append.2 ⟨lD.1,mE.2.1,fun a ha c hc e=>lD.2.2 a ha c (by simp[hc]) e⟩⟩,fun c hc=>?_⟩
  have hc':c∈b::(F1++(Fi++F2)):=by simp at hc ⊢;rcases hc with hc|hc|hc<;>simp[hc]
  refine⟨(o.2 c hc').1,?_⟩
  by_cases e:c=b
  ·subst e;simpa using hst
  ·simp[e];exact(o.2 c hc').2
 ·intro c hc
  simp at hc ⊢;rcases hc with hc|hc|hc<;>simp[hc]
theorem au.top {n:Nat} {xs:List α} {v:AV} {F:List Nat} (r:au h v xs F) (o:Own n h F) (hi:0 < xs.length):∃ b off,v= .sl b off xs.length∧mine h b∧(h.get b).es=Cel.w α∧off+xs.length * Cel.w α≤(h.get b).cells.length∧n≤b∧b < h.n:=by
 rcases r with⟨_,h1,_⟩|⟨b,off,F',cs,e1,rfl,h1,h2,h3,h4,h5,h6,h7⟩
 ·omega
 ·exact⟨b,off,e1,(o.2 b (by simp)).2,h3,h4,(o.2 b (by simp)).1,h1⟩
theorem alp {bytes i n:Nat} {xs:List α} {b off:Nat} {F:List Nat} (r:au h (.sl b off xs.length) xs F) (o:Own n h F) (hi:i < xs.length) {Q:Nat→List AV→AH→Prop} {k:AV→Prog}
  (hk:∀ h' F',Kp h h' F→au h' (.sl b off (xs.length - 1)) (xs.eraseIdx i) F'→Own n h' F'→(∀ c∈F',c∈F)→h'.n=h.n→(k (.sl b off (xs.length - 1))).awp P h' Q):
  (Prog.op (.app (Cel.w α) bytes (.sl b off i) (.sl b (off+(i+1) * Cel.w α) (xs.length - (i+1)))) k).awp P h Q:=by
 have hpos:=Cel.pos (α:=α)
 have hsm:=r.small
 obtain⟨x,hx,-,-⟩:=aR hi
 rcases r with⟨_,h1,_⟩|⟨b',off',F',cs,e1,rfl,h1,h2,h3,h4,h5,h6,h7⟩
 ·omega
 cases e1
 have hm:mine h b:=(o.2 b (by simp)).2
 have h7':=h7
 have hsp:xs=xs.take i++([x]++xs.drop (i+1)):=by simpa using xK hx
 rw[hsp] at h7'
 obtain⟨c1,c23,F1,F23,rfl,rfl,q1,q2⟩:=h7'.Dx
 obtain⟨E,c2,Fi,F2,rfl,rfl,q3,q4⟩:=q2
 have q3:Cel.rep h x E Fi:=q3
 have l1:=q1.length
 have l3:=Cel.len q3
 have l4:=bO.length (xs:=xs.drop (i+1)) q4
 rw[List.length_take,Nat.min_eq_left (by omega)] at l1
 rw[List.length_drop] at l4
 have hmul:xs.length * Cel.w α=i * Cel.w α+Cel.w α+(xs.length - (i+1)) * Cel.w α:=by
  rw[←Nat.succ_mul,←Nat.add_mul];congr 1;omega
 have KT:(i+1) * Cel.w α=i * Cel.w α+Cel.w α:=Nat.succ_mul _ _
 obtain⟨pre,post,hcells,hpre⟩:∃ pre post,(h.get b).cells=pre++(c1++(E++(c2++post)))∧pre.length=off:=by
  refine⟨(h.get b).cells.take off,(h.get b).cells.drop (off+xs.length * Cel.w α),?_,by rw[List.length_take];omega⟩
  have:(h.get b).cells=(h.get b).cells.take off++((c1++(E++c2))++(h.get b).cells.drop (off+xs.length * Cel.w α)):=by
   rw[h6,←List.append_assoc,←List.take_add,List.take_append_drop]
  simpa using this
 have hst:(h.get b).st=0:=hm
 have hnew:j5 h (Cel.w α) (.sl b (off+(i+1) * Cel.w α) (xs.length - (i+1)))=some c2:=by
  simp only[j5]
  rw[if_pos (by rw[KT];omega),hcells]
  congr 1
  rw[show pre++(c1++(E++(c2++post)))=(pre++(c1++E))++(c2++post) by simp,show off+(i+1) * Cel.w α=(pre++(c1++E)).length by simp only[List.length_append];omega,List.drop_left,←l4,List.take_left]
 have hlen1:i+(xs.length - (i+1))=xs.length - 1:=by omega
 have amL:(xs.length - 1) * Cel.w α+Cel.w α=xs.length * Cel.w α:=by rw[←Nat.succ_mul];congr 1;omega
 refine Tm hm (by omega) h3 hnew rfl (.inr h2) (by rw[hlen1];omega) ?_
 rw[hlen1]
 have hL1:(splice (h.get b).cells (off+i * Cel.w α) c2).length=(h.get b).cells.length:=Ca _ _ _ (by rw[l4];omega)
 have hfin:splice (h.get b).cells (off+i * Cel.w α) c2=pre++((c1++c2)++(E++(c2++post)).drop c2.length):=by
  rw[hcells,show off+i * Cel.w α=(pre++c1).length by simp only[List.length_append];omega,show pre++(c1++(E++(c2++post)))=(pre++c1)++(E++(c2++post)) by simp,oD rfl (by simp;omega)]
  simp
 have hnb:b ∉ F1++(Fi++F2):=(List.nodup_cons.1 o.1).1
 generalize hZ:splice (h.get b).cells (off+i * Cel.w α) c2=Z at hL1 hfin ⊢
 have keep:∀ c∈F1++(Fi++F2),(h.upd b ⟨Z,(h.get b).es,(h.get b).st⟩).get c=h.get c:=fun c hc=>by
  have:c≠b:=fun e=>hnb (e▸hc)
  simp[this]
 have hes:(xs.eraseIdx i).length=xs.length - 1:=by rw[List.length_eraseIdx,if_pos hi]
 refine hk _ (b::(F1++F2)) ?_ (.inr ⟨b,off,F1++F2,c1++c2,by rw[hes],rfl,by simpa using h1,by simpa[live] using h2,by simpa using h3,?_,by omega,?_,?_⟩) ?_ ?_ rfl
 ·exact⟨Nat.le_refl _,fun c _ hX=>by have:c≠b:=fun e=>hX (by simp[e]);simp[this]⟩
 ·simp only[eO,if_true,hL1];rw[hes];omega
 ·simp only[eO,if_true]
  rw[hes,hfin,←hpre,List.drop_left,show(xs.length - 1) * Cel.w α=(c1++c2).length by simp only[List.length_append];omega,List.take_left]
 ·rw[RX hi]
  exact(q1.keep fun c hc=>⟨keep c (by simp[hc]),by simpa using q1.lt c hc⟩).append (bO.keep (xs:=xs.drop (i+1)) q4 fun c hc=>⟨keep c (by simp[hc]),by simpa using bO.lt (xs:=xs.drop (i+1)) q4 c hc⟩)
 ·have hnd:=List.nodup_cons.1 o.1
  have lD:=List.nodup_append.1 hnd.2
  have mE:=List.nodup_append.1 lD.2.1
  refine⟨List.nodup_cons.2 ⟨fun hc=>hnb (by simp at hc ⊢;rcases hc with hc|hc<;>simp[hc]),List.nodup_append.2 ⟨lD.1,mE.2.1,fun a ha c hc e=>lD.2.2 a ha c (by simp[hc]) e⟩⟩,fun c hc=>?_⟩
  have hc':c∈b::(F1++(Fi++F2)):=by simp at hc ⊢;rcases hc with hc|hc|hc<;>simp[hc]
  refine⟨(o.2 c hc').1,?_⟩
  by_cases e:c=b
  ·subst e;simpa using hst
  ·simp[e];exact(o.2 c hc').2
 ·intro c hc
  simp at hc ⊢;rcases hc with hc|hc|hc<;>simp[hc]
end
end Go.Ab
end
section
set_option linter.unusedSimpArgs false
set_option linter.unusedVariables false
namespace Go.Ab
open Go.RowKit
section
variable{α:Type} [Cel α] {P:Program} {h:AH}
def VL (w bytes:Nat) (zero:List AV) (c:Nat) (x0:AV):Prog:=.op (.len 0 x0) fun v1=>.op (.eX w bytes zero v1 v1) fun v2=>.loop [AV.int .i64 0] (fun vs3=>.op (.len 0 x0) fun v5=>.op (.bin 0 .lss (g vs3 0) v5) fun v6=>.ite v6 (.op (.idx w x0 (g vs3 0)) fun v7=>.op (.ld1 v7) fun v8=>.op (.call c [v8]) fun v9=>.op (.idx w v2 (g vs3 0)) fun v10=>.op (.st w v10 v9) fun v11=>.op (.bin 0 .add (g vs3 0) (AV.int .i64 1)) fun v12=>.leaf 0 [v12]) (.leaf 2 [g vs3 0])) fun t4 vs3=>aA t4 1 (.leaf 1 vs3) (aA t4 2 (.fin [.val v2]) .bad)
theorem toSS_spec {w bytes c n:Nat} {zero:List AV} (hw:w=Cel.w (List α)) (hz:zero.length=w) (hbn:bytes=n) {xs:List (List α)} (hc:∀ x∈xs,dZ P c x) {x0:AV} {F:List Nat} (r:au h x0 xs F) (hs:xs.length * n≤70368744177664):
  (VL w bytes zero c x0).awp P h fun t vs h'=>t=1∧∃ v,vs=[v]∧Ext h h'∧∃ F',au h' v xs F'∧Own h.n h' F':=by
 subst hw hbn
 unfold VL
 have hsm:=r.small
 have hpos:=Cel.pos (α:=List α)
 refine bQ r (Ku hs ?_)
 refine aY xs.length (fun i vs h1=>vs=[.int .i64 (i:Int)]∧i≤xs.length∧Ext h h1∧h.n < h1.n∧∃ A FA,h1.get h.n=⟨A++(List.replicate (xs.length - i) zero).flatten,Cel.w (List α),0⟩∧bO h1 (xs.take i) A FA∧Own (h.n+1) h1 FA) ?_ ?_
 ·exact⟨rfl,Nat.zero_le _,(Ext.refl h).push _,by simp,[],[],by simp,⟨rfl,rfl⟩,Own.nil⟩
 ·rintro i vs h1 _ ⟨rfl,hi,e,hn,A,FA,hg,ra,oa⟩
  refine bQ r (fq ?_ ?_)
  ·intro hlt
   have hlt:i < xs.length:=by simp[g] at hlt;exact hlt
   obtain⟨x,hx,_,htk⟩:=aR hlt
   refine dH (bS r hx rfl ?_)
   rintro b o _ Fi a ⟨v0,rfl,rx0⟩ _
   refine qM a e (aT (hc x (List.mem_of_getElem? hx) v0 Fi h1 (rx0.ext e)) ?_)
   rintro v h2 ⟨e2,F',Xa,o'⟩
   obtain⟨cs',hcs'⟩:∃ cs',cs'=[v]:=⟨_,rfl⟩
   have rx':Cel.rep h2 x cs' F':=⟨v,hcs',Xa⟩
   have hl':=Cel.len rx'
   have hA:=ra.length
   rw[List.length_take,Nat.min_eq_left hi] at hA
   have hg2:h2.get h.n=⟨A++(List.replicate (xs.length - i) zero).flatten,Cel.w (List α),0⟩:=by rw[e2.2 _ hn];exact hg
   have hle:i * Cel.w (List α)+Cel.w (List α)≤xs.length * Cel.w (List α):=by
    have:=Nat.mul_le_mul_right (Cel.w (List α)) (show i+1≤xs.length from hlt)
    rw[Nat.succ_mul] at this;exact this
   have hZ:((List.replicate (xs.length - i) zero).flatten).length=xs.length * Cel.w (List α) - i * Cel.w (List α):=by rw[J4,hz,Nat.mul_sub_right_distrib]
   refine bn (i:=i) hlt ?_
   refine rR (by simp[mine,hg2]) (by rw[hcs'];exact Xa.cell) hl' (by simp only[hg2,List.length_append,hZ,hA];omega) ?_
   refine fG (j:=i) (by omega) ?_
   refine dF ?_
   simp only[hg2,Nat.zero_add]
   simp only[if_true]
   refine⟨hlt,trivial,hlt,(e.trans e2).upd (Nat.le_refl _) _,Nat.lt_of_lt_of_le hn e2.1,A++cs',FA++F',?_,?_,?_⟩
   ·have:xs.length - i=xs.length - (i+1)+1:=by omega
    simp only[eO,if_true]
    rw[oD hA (by rw[hZ];omega),this,hl',←hz,Tf,hz]
   ·rw[htk]
    have keep:∀ b,h.n < b→b < h2.n→(h2.upd h.n {h2.get h.n with cells:=splice (A++(List.replicate (xs.length - i) zero).flatten) (i * Cel.w (List α)) cs'}).get b=h2.get b∧b < (h2.upd h.n {h2.get h.n with cells:=splice (A++(List.replicate (xs.length - i) zero).flatten) (i * Cel.w (List α)) cs'}).n:=by
     intro b hb hb2
     have:b≠h.n:=by omega
     exact⟨by simp[this],hb2⟩
    simp only[hg2] at keep
    refine((ra.ext e2).keep fun b hb=>keep b (oa.2 b hb).1 ((ra.ext e2).lt b hb)).snoc (Cel.keep rx' fun b hb=>keep b (by have:=(o'.2 b hb).1;omega) (Cel.lt rx' b hb))
   ·refine⟨List.nodup_append.2 ⟨oa.1,o'.1,?_⟩,?_⟩
    ·intro a ha b hb e
     subst e
     have:=ra.lt a ha
     have:=(o'.2 a hb).1
     omega
    ·intro b hb
     have hb2:h.n < b∧(h2.get b).st=0:=by
      rcases List.mem_append.1 hb with hb|hb
      ·have h1:=oa.2 b hb
       exact⟨h1.1,by rw[e2.2 b (ra.lt b hb)];exact h1.2⟩
      ·have h1:=o'.2 b hb
       exact⟨by omega,h1.2⟩
     have:b≠h.n:=by omega
     exact⟨hb2.1,by simp[this,hb2.2]⟩
  ·intro hge
   have hge: ¬ i < xs.length:=by simp[g] at hge;omega
   have hi':i=xs.length:=by omega
   subst hi'
   refine dw (dF ?_)
   simp only[aA,g]
   simp only[show(2:Nat)≠0 by decide,show(2:Nat)≠1 by decide,if_false,if_true]
   refine dI ⟨rfl,_,rfl,e,h.n::FA,.inr ⟨h.n,0,FA,A,rfl,rfl,hn,?_,?_,?_,hsm,?_,?_⟩,?_⟩
   ·simp[live,hg]
   ·simp[hg]
   ·have:=ra.length
    simp at this
    simp[hg,this]
   ·have:=ra.length
    simp at this
    simp[hg,←this]
   ·simpa using ra
   ·refine⟨List.nodup_cons.2 ⟨fun hm=>?_,oa.1⟩,?_⟩
    ·have:=(oa.2 _ hm).1;omega
    ·intro b hb
     rcases List.mem_cons.1 hb with rfl|hb
     ·exact⟨Nat.le_refl _,by simp[hg]⟩
     ·exact⟨by have:=(oa.2 b hb).1;omega,(oa.2 b hb).2⟩
def VT (c:Nat) (x0 x1:AV):Prog:=.op (.len 0 x0) fun v1=>.op (.len 0 x1) fun v2=>.op (.bin 0 .neq v1 v2) fun v3=>.ite v3 (.fin [.val (AV.bool false)]) (.loop [AV.int .i64 0] (fun vs4=>.op (.len 0 x0) fun v6=>.op (.bin 0 .lss (g vs4 0) v6) fun v7=>.ite v7 (.op (.idx 1 x0 (g vs4 0)) fun v8=>.op (.ld1 v8) fun v9=>.op (.idx 1 x1 (g vs4 0)) fun v10=>.op (.ld1 v10) fun v11=>.op (.call c [v9,v11]) fun v12=>.op (.una .not v12) fun v13=>.ite v13 (.fin [.val (AV.bool false)]) (.op (.bin 0 .add (g vs4 0) (AV.int .i64 1)) fun v14=>.leaf 0 [v14])) (.leaf 2 [g vs4 0])) fun t5 vs4=>aA t5 1 (.leaf 1 vs4) (aA t5 2 (.fin [.val (AV.bool true)]) .bad))
theorem aj2 {c:Nat} {xs:List (List α)} (hc:EqS α P c) {x0 x1:AV} {F F':List Nat} (r:au h x0 xs F) (r':au h x1 xs F'):
  (VT c x0 x1).awp P h (Post (.bool true) h):=by
 unfold VT
 have hsm:=r.small
 refine bQ r (bQ r' (vD (fun hne=>absurd rfl hne) fun _=>dw ?_))
 refine aY xs.length (fun i vs h1=>vs=[.int .i64 (i:Int)]∧i≤xs.length∧h1=h) ⟨rfl,Nat.zero_le _,rfl⟩ ?_
 rintro i vs h1 _ ⟨rfl,hi,rfl⟩
 refine bQ r (fq ?_ ?_)
 ·intro hlt
  have hlt:i < xs.length:=by simp[g] at hlt;exact hlt
  obtain⟨x,hx,_,htk⟩:=aR hlt
  refine dH (bS r hx rfl ?_)
  rintro b o _ Fi a ⟨v0,rfl,rx⟩ _
  refine qM a (Ext.refl _) (bS r' hx rfl ?_)
  rintro b' o' _ Fi' a' ⟨v0',rfl,rx'⟩ _
  refine qM a' (Ext.refl _) (aQ (hc x v0 v0' Fi Fi' h1 rx rx') (uV (dw ?_)))
  refine fG (j:=i) (by omega) ?_
  exact dF (nexts ⟨hlt,rfl,hlt,rfl⟩)
 ·intro hge
  exact dw (dF (vQ (dI ⟨rfl,rfl,Ext.refl _⟩)))
def VN (c:Nat) (x0 x1:AV):Prog:=.op (.len 0 x0) fun v1=>.op (.bin 0 .sub x1 v1) fun v2=>.op (.bin 0 .lss v2 (AV.int .i64 0)) fun v3=>.ite v3 (.fin [.val (AV.int .i64 (-1))]) (.loop [v2,AV.int .i64 0] (fun vs4=>.op (.len 0 x0) fun v6=>.op (.bin 0 .lss (g vs4 1) v6) fun v7=>.ite v7 (.op (.idx 1 x0 (g vs4 1)) fun v8=>.op (.ld1 v8) fun v9=>.op (.call c [v9,g vs4 0]) fun v10=>.op (.bin 0 .lss v10 (AV.int .i64 0)) fun v11=>.ite v11 (.fin [.val (AV.int .i64 (-1))]) (.op (.bin 0 .add (g vs4 1) (AV.int .i64 1)) fun v12=>.leaf 0 [v10,v12])) (.leaf 2 [g vs4 0,g vs4 1])) fun t5 vs4=>aA t5 1 (.leaf 1 vs4) (aA t5 2 (.fin [.val (g vs4 0)]) .bad))
theorem ajK [Sz α] {c:Nat} {xs:List (List α)} (hc:SzL α P c) (ok:∀ x∈xs,Cel.ok x) {x0:AV} {F:List Nat} {b:Int} (r:au h x0 xs F) (h0:0≤b) (h1:b≤1048576):
  (VN c x0 (.int .i64 b)).awp P h (Post (.int .i64 (szr b (xs.length+szs xs))) h):=by
 have hsm:=r.small
 unfold VN
 refine bQ r (uZ ?_)
 rw[iA (by omega) (by omega)]
 refine fq (fun hl=>dH (dI ⟨rfl,?_,Ext.refl _⟩)) (fun hl=>dw ?_)
 ·simp only[szr];rw[if_neg (by omega)]
 refine aY xs.length (fun i vs h1=>vs=[.int .i64 (b - xs.length - szs (xs.take i)),.int .i64 (i:Int)]∧0≤b - xs.length - szs (xs.take i)∧i≤xs.length∧h1=h) ⟨by simp[szs],by simp[szs];omega,Nat.zero_le _,rfl⟩ ?_
 rintro i vs h1 _ ⟨rfl,hb,hi,rfl⟩
 refine bQ r (fq ?_ ?_)
 ·intro hlt
  have hlt:i < xs.length:=by simp[g] at hlt;exact hlt
  obtain⟨x,hx,_,htk⟩:=aR hlt
  have hs:=Tq htk
  have hle:=gP xs (i+1)
  refine dH (bS r hx rfl ?_)
  rintro bb o _ Fi a ⟨v0,rfl,rx⟩ _
  refine qM a (Ext.refl _) (aQ (hc x (ok x (List.mem_of_getElem? hx)) v0 Fi _ h1 rx hb (by omega)) ?_)
  have hsz:x.length+szs x=Sz.sz x:=rfl
  rw[hsz]
  refine fq (fun hl=>dH (dI ⟨rfl,?_,Ext.refl _⟩)) (fun hl=>dw ?_)
  ·simp only[szr] at hl ⊢
   split at hl
   ·omega
   ·rw[if_neg (by omega)]
  ·refine fG (j:=i) (by omega) ?_
   refine dF (nexts ?_)
   have:szr (b - xs.length - szs (xs.take i)) (Sz.sz x)=b - xs.length - szs (xs.take (i+1)):=by
    simp only[szr] at hl ⊢
    split at hl
    ·rename_i hh;rw[if_pos hh];omega
    ·omega
   rw[this] at hl ⊢
   exact⟨hlt,rfl,by omega,hlt,rfl⟩
 ·intro hge
  have:i=xs.length:=by simp[g] at hge;omega
  subst this
  rw[List.take_length] at hb
  refine dw (dF (vQ (dI ⟨rfl,?_,Ext.refl _⟩)))
  simp only[szr,g0,List.take_length]
  rw[if_pos (by omega)]
  rw[show b - ((xs.length+szs xs:Nat):Int)=b - xs.length - szs xs by omega]
end
section
variable{h:AH} {F G H:List Nat}
theorem dV (a:∀ c∈F,c ∉ G) (b:∀ c∈F,c ∉ H):∀ c∈F,c ∉ G++H:=fun c hc hm=>by
 rcases List.mem_append.1 hm with hm|hm
 ·exact a c hc hm
 ·exact b c hc hm
theorem bY (d:∀ c∈F,c ∉ G++H):∀ c∈F,c ∉ G:=fun c hc hm=>d c hc (List.mem_append_left _ hm)
theorem aM (d:∀ c∈F,c ∉ G++H):∀ c∈F,c ∉ H:=fun c hc hm=>d c hc (List.mem_append_right _ hm)
theorem dD (d:∀ c∈F,c ∉ G:=by(repeat(first|assumption|with_reducible apply dV|exact iw))):∀ c∈F,c ∉ G:=d
end
end Go.Ab
end
section
set_option linter.unusedSimpArgs false
set_option linter.unusedVariables false
namespace Go.Ab
open Go.RowKit
section
variable{α:Type} [Cel α] {P:Program} {h:AH}
def nI (α:Type) [Cel α] (P:Program) (h:AH) (f:FuncId) (caps:List AV) (xs:List α) (p:α→Bool):Prop:=∀ (x:α) (cs:List AV) (F:List Nat),x∈xs→Cel.rep h x cs F→aN P f (.agg cs::caps) h (.bool (p x))
theorem S9 {w:Nat} (hw:w=Cel.w α) {xs:List α} {x0:AV} {F:List Nat} {f:FuncId} {caps:List AV} {p:α→Bool} (r:au h x0 xs F) (hf:nI α P h f caps xs p):
  (FB w x0 (.fn f caps)).awp P h (Post (.int .i64 (idx p xs)) h):=by
 subst hw
 have hsm:=r.small
 have hpos:=Cel.pos (α:=α)
 unfold FB
 refine bQ r ?_
 refine aY xs.length (fun i vs h1=>vs=[.int .i64 (i:Int)]∧i≤xs.length∧h1=h∧∀ j y,j < i→xs[j]? =some y→p y=false) ⟨rfl,Nat.zero_le _,rfl,fun j y hj=>by omega⟩ ?_
 rintro i vs h1 _ ⟨rfl,hi,rfl,hn⟩
 refine fq ?_ ?_
 ·intro hlt
  have hlt:i < xs.length:=by simp[g] at hlt;exact hlt
  obtain⟨x,hx,_,htk⟩:=aR hlt
  refine dH (bS r hx rfl ?_)
  intro bb o cs Fi a rx _
  refine fZ a (Ext.refl _) hpos (by rw[List.take_of_length_le (by rw[Cel.len rx];exact Nat.le_refl _)]) (Cel.len rx) (oJ (hf x cs Fi (List.mem_of_getElem? hx) rx) (vE ?_ ?_))
  ·intro hp
   exact dI ⟨rfl,by rw[rA hx hp hn];rfl,Ext.refl _⟩
  ·intro hp
   refine fG (j:=i) (by omega) ?_
   refine dF (nexts ?_)
   refine⟨hlt,rfl,hlt,rfl,fun j y hj hy=>?_⟩
   by_cases e:j=i
   ·subst e;rw[hx] at hy;cases hy;exact hp
   ·exact hn j y (by omega) hy
 ·intro hge
  have:i=xs.length:=by simp[g] at hge;omega
  subst this
  exact dw (dF (vQ (dI ⟨rfl,by rw[yE hn],Ext.refl _⟩)))
end
section
variable{P:Program} {h:AH} {Q:Nat→List AV→AH→Prop} {k:AV→Prog}
theorem Kr {n:Nat} {z y:Int} {v:AV} {xs:List Int} {F:List Nat} (r:au h v xs F) (o:Own n h F) (hz:0≤z) (hl:z < xs.length)
  (hk:∀ h',(∀ h0,Ext h0 h→h0.n≤n→Ext h0 h')→Kp h h' F→h'.n=h.n→au h' v (xs.set z.toNat y) F→Own n h' F→(k (.tup [])).awp P h' Q):
  (Prog.op (.idx 1 v (.int .i64 z)) fun a=>.op (.st 1 a (.int .i64 y)) k).awp P h Q:=by
 obtain⟨x,hx,-,-⟩:=aR (show z.toNat < xs.length by omega)
 obtain⟨b,off,A,E,R,F1,Fi,F2,rfl,rfl,hb,hlv,hes,hcs,hA,⟨rfl,rfl⟩,back⟩:=r.zip hx
 have hnd:=List.nodup_cons.1 o.1
 have hmi:(h.get b).st=0:=(o.2 b (by simp)).2
 have hg:h.get b=⟨A++([.int .i64 x]++R),1,0⟩:=by
  have:h.get b=⟨(h.get b).cells,(h.get b).es,(h.get b).st⟩:=rfl
  rw[this,hcs,hes,hmi];rfl
 have hkp:Kp h (h.upd b ⟨A++([.int .i64 y]++R),1,0⟩) (b::(F1++([]++F2))):=⟨by simp,fun c hc hn=>by
  have:c≠b:=fun e=>hn (by simp[e])
  simp[this]⟩
 have e1:z=((z.toNat:Nat):Int):=by omega
 rw[e1]
 refine bn (by omega) ?_
 refine Fj (j:=0) (E:=[.int .i64 x]) (E':=[.int .i64 y]) hg hA rfl rfl ⟨by simp,by simp[splice]⟩ ?_
 refine hk _ (fun h0 e hn0=>hkp.ext e fun c hc=>by have:=(o.2 c hc).1;omega) hkp (by simp) ?_ ⟨o.1,fun c hc=>⟨(o.2 c hc).1,?_⟩⟩
 ·refine back _ y [.int .i64 y] [] (by simp) (by simp;rfl) (by simp[live]) (by simpa using hb) (fun c hc=>?_) ⟨rfl,rfl⟩
  have h1:c≠b:=fun e=>hnd.1 (by subst e;simpa using hc)
  exact⟨by simp[h1],by simpa using r.lt c (by rcases List.mem_append.1 hc with hc|hc<;>simp[hc])⟩
 ·by_cases e:c=b
  ·subst e;simp
  ·simp[e];exact(o.2 c hc).2
end
section
variable{P:Program} {h:AH} {Q:Nat→List AV→AH→Prop} {k:AV→Prog}
theorem aX {f:FuncId} {args:List AV} {p:Prop} (c:aN P f args h (.bool (bp p))) (h1:p→(k (.bool true)).awp P h Q) (h2: ¬p→(k (.bool false)).awp P h Q):(Prog.op (.call f args) k).awp P h Q:=cK c (fun e=>h1 (oW e)) fun e=>h2 (DX e)
theorem bx {p q:Prop} (n: ¬p:=by intro _;first|omega|contradiction):p→q:=fun h=>(n h).elim
theorem bo {p q:Prop} (n: ¬p:=by intro _;omega):p→q:=fun h=>(n h).elim
end
end Go.Ab
end
