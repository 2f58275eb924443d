import Derived.SizedLaws
import Derived.Carry
import Derived.OpenShut
import Derived.Test.YtkdjapahgmflbaaGreatDK2
set_option linter.unusedSimpArgs false
set_option linter.unusedVariables false
section
namespace Go.Ab
open Go.RowKit
def Ext (h h':AH):Prop:=h.n≤h'.n∧∀ b,b < h.n→h'.get b=h.get b
theorem Ext.refl (h:AH):Ext h h:=⟨Nat.le_refl _,fun _ _=>rfl⟩
theorem Ext.trans {a b c:AH} (x:Ext a b) (y:Ext b c):Ext a c:=⟨Nat.le_trans x.1 y.1,fun k hk=>(y.2 k (Nat.lt_of_lt_of_le hk x.1)).trans (x.2 k hk)⟩
theorem Ext.push {a b:AH} (x:Ext a b) (k:Blk):Ext a (b.push k):=
 ⟨Nat.le_trans x.1 (Nat.le_succ _),fun i hi=>by
  have:i≠b.n:=by have:=x.1;omega
  simp only[AH.push,this,if_false];exact x.2 i hi⟩
theorem Ext.upd {a b:AH} (x:Ext a b) {i:Nat} (hi:a.n≤i) (k:Blk):Ext a (b.upd i k):=
 ⟨x.1,fun j hj=>by
  have:j≠i:=by omega
  simp only[AH.upd,this,if_false];exact x.2 j hj⟩
@[simp] theorem aH (h:AH) (k:Blk):(h.push k).n=h.n+1:=rfl
@[simp] theorem aN (h:AH) (b:Nat) (k:Blk):(h.upd b k).n=h.n:=rfl
@[simp] theorem Gj (h:AH) (k:Blk) (i:Nat):(h.push k).get i=if i=h.n then k else h.get i:=rfl
@[simp] theorem gY (h:AH) (b:Nat) (k:Blk) (i:Nat):(h.upd b k).get i=if i=b then k else h.get i:=rfl
mutual
def old (n:Nat):AV→Prop
 | .ptr b _=>b < n
 | .sl b _ _=>b < n
 | .fn _ caps=>olds n caps
 | .agg vs=>olds n vs
 | .tup vs=>olds n vs
 |_=>True
def olds (n:Nat):List AV→Prop
 |[]=>True
 |v::vs=>old n v∧olds n vs
end
mutual
theorem aG.down {n:Nat} {m m':BM} (hm:∀ b,b < n→m' b=m b):∀ (a:AV) (v:Value),old n a→aG m' a v→aG m a v
 | .int ..,v,_,r=>by simpa only[aG] using r
 | .bool ..,v,_,r=>by simpa only[aG] using r
 | .str ..,v,_,r=>by simpa only[aG] using r
 | .zB,v,_,r=>by simpa only[aG] using r
 | .aC,v,_,r=>by simpa only[aG] using r
 | .un,v,_,r=>by simp only[aG]
 | .ptr b off,v,o,r=>by
  simp only[old] at o
  simp only[aG,hm b o] at r ⊢;exact r
 | .sl b off len,v,o,r=>by
  simp only[old] at o
  simp only[aG,hm b o] at r ⊢;exact r
 | .fn f caps,v,o,r=>by
  simp only[old] at o
  simp only[aG] at r ⊢
  obtain⟨l,hl,hv⟩:=r
  exact⟨l,aI.down hm caps l o hl,hv⟩
 | .agg vs,v,o,r=>by
  simp only[old] at o
  simp only[aG] at r ⊢
  obtain⟨l,hl,hv⟩:=r
  exact⟨l,aI.down hm vs l o hl,hv⟩
 | .tup vs,v,o,r=>by
  simp only[old] at o
  simp only[aG] at r ⊢
  obtain⟨l,hl,hv⟩:=r
  exact⟨l,aI.down hm vs l o hl,hv⟩
theorem aI.down {n:Nat} {m m':BM} (hm:∀ b,b < n→m' b=m b):∀ (a:List AV) (v:List Value),olds n a→aI m' a v→aI m a v
 |[],l,_,r=>by simpa only[aI] using r
 |a::as,l,o,r=>by
  simp only[olds] at o
  simp only[aI] at r ⊢
  obtain⟨v,vs,hl,hv,hvs⟩:=r
  exact⟨v,vs,hl,aG.down hm a v o.1 hv,aI.down hm as vs o.2 hvs⟩
end
mutual
theorem aG.wG {n:Nat} {m:BM} (hm:∀ b p,m b=some p→b < n):∀ (a:AV) (v:Value),aG m a v→old n a
 | .int ..,v,r=>by simp only[old]
 | .bool ..,v,r=>by simp only[old]
 | .str ..,v,r=>by simp only[old]
 | .zB,v,r=>by simp only[old]
 | .aC,v,r=>by simp only[old]
 | .un,v,r=>by simp only[old]
 | .ptr b off,v,r=>by
  simp only[aG] at r;simp only[old]
  obtain⟨p,hp,_⟩:=r;exact hm b p hp
 | .sl b off len,v,r=>by
  simp only[aG] at r;simp only[old]
  obtain⟨p,_,_,hp,_⟩:=r;exact hm b p hp
 | .fn f caps,v,r=>by
  simp only[aG] at r;simp only[old]
  obtain⟨l,hl,hv⟩:=r
  exact aI.wG hm caps l hl
 | .agg vs,v,r=>by
  simp only[aG] at r;simp only[old]
  obtain⟨l,hl,hv⟩:=r
  exact aI.wG hm vs l hl
 | .tup vs,v,r=>by
  simp only[aG] at r;simp only[old]
  obtain⟨l,hl,hv⟩:=r
  exact aI.wG hm vs l hl
theorem aI.wG {n:Nat} {m:BM} (hm:∀ b p,m b=some p→b < n):∀ (a:List AV) (v:List Value),aI m a v→olds n a
 |[],l,r=>by simp only[olds]
 |a::as,l,r=>by
  simp only[aI] at r
  simp only[olds]
  obtain⟨v,vs,hl,hv,hvs⟩:=r
  exact⟨aG.wG hm a v hv,aI.wG hm as vs hvs⟩
end
theorem Sim.forget {B:Nat} {w0 w w':World} {m m':BM} {h h':AH} (s:Sim B w0 m h w) (s':Sim B w0 m' h' w') (e:Ext h h') (hm:∀ b,b < h.n→m' b=m b):Sim B w0 m h w':=by
 have up:∀ b p,m b=some p→m' b=some p∧h'.get b=h.get b:=fun b p hp=>⟨by rw[hm b (s.dom b p hp)];exact hp,e.2 b (s.dom b p hp)⟩
 refine⟨s'.below,s'.room,s.dom,?_,?_,s.old,s.sep,s.sts,s.fresh⟩
 ·intro b p hp hx
  obtain⟨h1,h2⟩:=up b p hp
  have r:=s'.blk b p h1 (by rw[h2];exact hx)
  rw[h2] at r
  refine⟨r.1,fun i v hv=>?_⟩
  obtain⟨v',g1,g2,g3⟩:=r.2 i v hv
  obtain⟨u,_,k2,_⟩:=(s.blk b p hp hx).2 i v hv
  exact⟨v',g1,aG.down hm v v' (aG.wG s.dom v u k2) g2,g3⟩
 ·intro b p hp hx
  obtain⟨h1,h2⟩:=up b p hp
  have r:=s'.own b p h1 (by rw[h2];exact hx)
  rw[h2] at r;exact r
def aM (P:Program) (f:FuncId) (args:List AV) (h:AH) (r:AV):Prop:=bN P f args h fun v h'=>v=r∧h'=h
theorem ajT {P:Program} {f:FuncId} {args:List AV} {h:AH} {r:AV} (c:bN P f args h fun v h'=>v=r∧Ext h h') (ho:old h.n r):aM P f args h r:=
 ⟨c.1,fun B w0 m w l s hl=>(c.2 B w0 m w l s hl).mono fun e w' ⟨v,a,m',h',h1,h2,h3,h4,h5,h6⟩=>by
  subst h5
  exact⟨v,_,m,h,h1,Grow.refl _ _,s.forget h3 h6 h2.2,aG.down h2.2 _ _ ho h4,rfl,rfl⟩⟩
noncomputable def bp (p:Prop):Bool:=@decide p (Classical.propDecidable p)
theorem MP {p:Prop}:bp p=true↔p:=by
 letI:=Classical.propDecidable p
 unfold bp;simp
theorem fI {p:Prop} (hp:p):bp p=true:=MP.2 hp
theorem gu {p:Prop} (hp: ¬ p):bp p=false:=by
 cases h:bp p
 ·rfl
 ·exact absurd (MP.1 h) hp
section
variable{P:Program} {h:AH} {Q:Nat→List AV→AH→Prop} {k:AV→Prog}
theorem aK {f:FuncId} {args:List AV} {R:AV→AH→Prop} (c:bN P f args h R) (hk:∀ v h',R v h'→(k v).awp P h' Q):(Prog.op (.call f args) k).awp P h Q:=c.mono hk
theorem aJ {f:FuncId} {args:List AV} {r:AV} (c:aM P f args h r) (hk:(k r).awp P h Q):(Prog.op (.call f args) k).awp P h Q:=c.mono fun v h' ⟨h1,h2⟩=>by subst h1;subst h2;exact hk
theorem bU {f:FuncId} {args:List AV} {r:Bool} (c:aM P f args h (.bool r)) (h1:r=true→(k (.bool true)).awp P h Q) (h2:r=false→(k (.bool false)).awp P h Q):(Prog.op (.call f args) k).awp P h Q:=aJ c (by
 cases r
 ·exact h2 rfl
 ·exact h1 rfl)
theorem sU {f:FuncId} {caps args:List AV} {r:AV} (c:aM P f (args++caps) h r) (hk:(k r).awp P h Q):(Prog.op (.iC (.fn f caps) args) k).awp P h Q:=c.mono fun v h' ⟨h1,h2⟩=>by subst h1;subst h2;exact hk
theorem Nk {x:AV} (hk:(k x).awp P h Q):(Prog.op (.mv x) k).awp P h Q:=hk
theorem alA {c:Bool} {x y:AV} (hk:(k (if c then x else y)).awp P h Q):(Prog.op (.pick (.bool c) x y) k).awp P h Q:=hk
theorem yg {x y:AV} (hk:(k x).awp P h Q):(Prog.op (.pick (.bool true) x y) k).awp P h Q:=hk
theorem vE {x y:AV} (hk:(k y).awp P h Q):(Prog.op (.pick (.bool false) x y) k).awp P h Q:=hk
theorem jD {cs:List AV} (hk:(k (.ptr h.n 0)).awp P (h.push ⟨cs,0,0⟩) Q):(Prog.op (.alloc cs) k).awp P h Q:=hk
theorem mX {x:AV} {cs:List AV} (hc:x.cells? =some cs) (hk:(k (.ptr h.n 0)).awp P (h.push ⟨cs,0,0⟩) Q):(Prog.op (.box x) k).awp P h Q:=by
 simp only[Prog.awp,AOp.go,hc];exact hk
theorem nN {b o off:Nat} (hk:(k (.ptr b (o+off))).awp P h Q):(Prog.op (.fad off (.ptr b o)) k).awp P h Q:=hk
theorem Yz {b o:Nat} {v:AV} (hc:(h.get b).cells[o]? =some v) (hl:live h b) (hk:(k v).awp P h Q):(Prog.op (.ld1 (.ptr b o)) k).awp P h Q:=by
 simp only[Prog.awp,AOp.go,hc];exact⟨hl,hk⟩
theorem Yy {n b o:Nat} {cs:List AV} (hc:((h.get b).cells.drop o).take n=cs) (h0:0 < n) (hn:cs.length=n) (hl:live h b) (hk:(k (.agg cs)).awp P h Q):(Prog.op (.ldn n (.ptr b o)) k).awp P h Q:=by
 simp only[Prog.awp,AOp.go,hc]
 refine⟨hl,?_,hk⟩
 subst hc
 simp only[List.length_take,List.length_drop] at hn
 omega
theorem zl {n b o:Nat} {x:AV} {xs:List AV} (hm:mine h b) (hx:x.cells? =some xs) (hn:xs.length=n) (ho:o+n≤(h.get b).cells.length) (hk:(k (.tup [])).awp P (h.upd b {h.get b with cells:=splice (h.get b).cells o xs}) Q):(Prog.op (.st n (.ptr b o) x) k).awp P h Q:=by
 simp only[Prog.awp,AOp.go,hx];exact⟨hm,hn,ho,hk⟩
theorem iH {q:IntKind} {a b:Int} (h1:a < b→(k (.bool true)).awp P h Q) (h2: ¬ (a < b)→(k (.bool false)).awp P h Q):(Prog.op (.bin 0 .lss (.int q a) (.int q b)) k).awp P h Q:=by
 simp only[Prog.awp,AOp.go,fQ,fJ,if_true]
 by_cases e:a < b
 ·simp only[e,decide_true];exact h1 e
 ·simp only[e,decide_false];exact h2 e
theorem amn {q:IntKind} {a b:Int} (h1:a≤b→(k (.bool true)).awp P h Q) (h2: ¬ (a≤b)→(k (.bool false)).awp P h Q):(Prog.op (.bin 0 .leq (.int q a) (.int q b)) k).awp P h Q:=by
 simp only[Prog.awp,AOp.go,fQ,fJ,if_true]
 by_cases e:a≤b
 ·simp only[e,decide_true];exact h1 e
 ·simp only[e,decide_false];exact h2 e
theorem MQ {q:IntKind} {a b:Int} (h1:b < a→(k (.bool true)).awp P h Q) (h2: ¬ (b < a)→(k (.bool false)).awp P h Q):(Prog.op (.bin 0 .gtr (.int q a) (.int q b)) k).awp P h Q:=by
 simp only[Prog.awp,AOp.go,fQ,fJ,if_true]
 by_cases e:b < a
 ·simp only[e,decide_true];exact h1 e
 ·simp only[e,decide_false];exact h2 e
theorem amo {q:IntKind} {a b:Int} (h1:b≤a→(k (.bool true)).awp P h Q) (h2: ¬ (b≤a)→(k (.bool false)).awp P h Q):(Prog.op (.bin 0 .geq (.int q a) (.int q b)) k).awp P h Q:=by
 simp only[Prog.awp,AOp.go,fQ,fJ,if_true]
 by_cases e:b≤a
 ·simp only[e,decide_true];exact h1 e
 ·simp only[e,decide_false];exact h2 e
theorem Ia {q:IntKind} {a b:Int} (h1:a=b→(k (.bool true)).awp P h Q) (h2: ¬ (a=b)→(k (.bool false)).awp P h Q):(Prog.op (.bin 0 .eql (.int q a) (.int q b)) k).awp P h Q:=by
 simp only[Prog.awp,AOp.go,fQ,fJ,if_true]
 by_cases e:a=b
 ·simp only[e,decide_true];exact h1 e
 ·simp only[e,decide_false];exact h2 e
theorem Ca {q:IntKind} {a b:Int} (h1:a≠b→(k (.bool true)).awp P h Q) (h2:a=b→(k (.bool false)).awp P h Q):(Prog.op (.bin 0 .neq (.int q a) (.int q b)) k).awp P h Q:=by
 simp only[Prog.awp,AOp.go,fQ,fJ,if_true]
 by_cases e:a=b
 ·simp only[e,decide_true,Bool.not_true];exact h2 e
 ·simp only[e,decide_false,Bool.not_false];exact h1 e
theorem aly {a b:ByteArray} (h1:a=b→(k (.bool true)).awp P h Q) (h2: ¬ (a=b)→(k (.bool false)).awp P h Q):(Prog.op (.bin 1 .eql (.str a) (.str b)) k).awp P h Q:=by
 simp only[Prog.awp,AOp.go,fQ,fJ,if_true]
 by_cases e:a=b
 ·simp only[e,decide_true];exact h1 e
 ·simp only[e,decide_false];exact h2 e
theorem alv {a b:ByteArray} (h1:a≠b→(k (.bool true)).awp P h Q) (h2:a=b→(k (.bool false)).awp P h Q):(Prog.op (.bin 1 .neq (.str a) (.str b)) k).awp P h Q:=by
 simp only[Prog.awp,AOp.go,fQ,fJ,if_true]
 by_cases e:a=b
 ·simp only[e,decide_true,Bool.not_true];exact h2 e
 ·simp only[e,decide_false,Bool.not_false];exact h1 e
theorem alF {a b:Bool} (hk:(k (.bool (a == b))).awp P h Q):(Prog.op (.bin 2 .eql (.bool a) (.bool b)) k).awp P h Q:=hk
theorem X4 {a b:Bool} (hk:(k (.bool (!(a == b)))).awp P h Q):(Prog.op (.bin 2 .neq (.bool a) (.bool b)) k).awp P h Q:=hk
theorem kL {n:Int} (h1: -9223372036854775808≤n) (h2:n≤9223372036854775807):IntKind.i64.wrap n=n:=by
 rw[IntKind.wrap_i64];omega
theorem eu {q:IntKind} {a b:Int} (hk:(k (.int q (q.wrap (a+b)))).awp P h Q):(Prog.op (.bin 0 .add (.int q a) (.int q b)) k).awp P h Q:=by
 simpa only[Prog.awp,AOp.go,fQ,fJ,if_true] using hk
theorem vX {a b:Int} (h1: -9223372036854775808≤a+b) (h2:a+b≤9223372036854775807) (hk:(k (.int .i64 (a+b))).awp P h Q):(Prog.op (.bin 0 .add (.int .i64 a) (.int .i64 b)) k).awp P h Q:=eu (by rw[kL h1 h2];exact hk)
theorem vU {q:IntKind} {a b:Int} (hk:(k (.int q (q.wrap (a - b)))).awp P h Q):(Prog.op (.bin 0 .sub (.int q a) (.int q b)) k).awp P h Q:=by
 simpa only[Prog.awp,AOp.go,fQ,fJ,if_true] using hk
theorem GV {a b:Int} (h1: -9223372036854775808≤a - b) (h2:a - b≤9223372036854775807) (hk:(k (.int .i64 (a - b))).awp P h Q):(Prog.op (.bin 0 .sub (.int .i64 a) (.int .i64 b)) k).awp P h Q:=vU (by rw[kL h1 h2];exact hk)
theorem XZ {q:IntKind} {a b:Int} (hk:(k (.int q (q.wrap (a * b)))).awp P h Q):(Prog.op (.bin 0 .mul (.int q a) (.int q b)) k).awp P h Q:=by
 simpa only[Prog.awp,AOp.go,fQ,fJ,if_true] using hk
theorem BZ {q:IntKind} {a b:Int} (hb:b≠0) (hk:(k (.int q (a.tmod b))).awp P h Q):(Prog.op (.bin 0 .rem (.int q a) (.int q b)) k).awp P h Q:=by
 simpa only[Prog.awp,AOp.go,fQ,fJ,if_true,hb,ne_eq,not_false_eq_true,and_self] using hk
theorem alz {q:IntKind} {a b:Int} (hb:b≠0) (hk:(k (.int q (q.wrap (a.tdiv b)))).awp P h Q):(Prog.op (.bin 0 .quo (.int q a) (.int q b)) k).awp P h Q:=by
 simpa only[Prog.awp,AOp.go,fQ,fJ,if_true,hb,ne_eq,not_false_eq_true,and_self] using hk
theorem H9 {b:Bool} (hk:(k (.bool (!b))).awp P h Q):(Prog.op (.una .not (.bool b)) k).awp P h Q:=hk
theorem qx (hk:(k (.bool false)).awp P h Q):(Prog.op (.una .not (.bool true)) k).awp P h Q:=hk
theorem tu (hk:(k (.bool true)).awp P h Q):(Prog.op (.una .not (.bool false)) k).awp P h Q:=hk
theorem nO {vs:List AV} {i:Nat} {v:AV} (hv:vs[i]? =some v) (hk:(k v).awp P h Q):(Prog.op (.ext (.tup vs) i) k).awp P h Q:=by
 simp only[Prog.awp,AOp.go,hv];exact hk
theorem GX {f:Nat} {caps:List AV} (hk:(k (.fn f caps)).awp P h Q):(Prog.op (.kr f caps) k).awp P h Q:=hk
theorem alE {q q':IntKind} {n:Int} (hk:(k (.int q (q.wrap n))).awp P h Q):(Prog.op (.conv q (.int q' n)) k).awp P h Q:=hk
theorem alD {off:Nat} {vs:List AV} {v:AV} (hv:vs[off]? =some v) (hk:(k v).awp P h Q):(Prog.op (.zD off (.agg vs)) k).awp P h Q:=by
 simp only[Prog.awp,AOp.go,hv];exact hk
theorem Lr {s:ByteArray} (hk:(k (.int .i64 s.size)).awp P h Q):(Prog.op (.len 1 (.str s)) k).awp P h Q:=hk
theorem dM {p q:Prog} (hk:p.awp P h Q):(Prog.ite (.bool true) p q).awp P h Q:=hk
theorem dP {p q:Prog} (hk:q.awp P h Q):(Prog.ite (.bool false) p q).awp P h Q:=hk
theorem yT {b:Bool} {p q:Prog} (h1:b=true→p.awp P h Q) (h2:b=false→q.awp P h Q):(Prog.ite (.bool b) p q).awp P h Q:=by
 cases b
 ·exact h2 rfl
 ·exact h1 rfl
theorem vG {o:AOp} (hk:(Prog.op o k).awp P h Q):(Prog.gop (.bool true) true o k).awp P h Q:=hk
theorem vH {o:AOp} (hk:(Prog.op o k).awp P h Q):(Prog.gop (.bool false) false o k).awp P h Q:=by simpa[Prog.awp] using hk
theorem Bd {o:AOp} (hk:(k (.tup [])).awp P h Q):(Prog.gop (.bool true) false o k).awp P h Q:=hk
theorem Bf {o:AOp} (hk:(k (.tup [])).awp P h Q):(Prog.gop (.bool false) true o k).awp P h Q:=by simpa[Prog.awp] using hk
theorem Wd {w:Bool} {o:AOp} (hk:(k (.tup [])).awp P h Q):(Prog.gop (.tup []) w o k).awp P h Q:=hk
theorem dQ {t:Nat} {vs:List AV} (hk:Q t vs h):(Prog.leaf t vs).awp P h Q:=hk
theorem eY {v:AV} (hk:Q 1 [v] h):(Prog.fin [.val v]).awp P h Q:=hk
theorem MC {v u:AV} (hk:Q 1 [.tup [v,u]] h):(Prog.fin [.val v,.val u]).awp P h Q:=hk
theorem lY {p:Prog} {kn:List AV→Prog} {ka:Nat→List AV→Prog} (hk:p.awp P h fun tag vs h'=>if tag=0 then(kn vs).awp P h' Q else(ka tag vs).awp P h' Q):(Prog.scope p kn ka).awp P h Q:=hk
theorem yU {o:AOp} {v:AV} {p:Prog} (hs:o.still P v h) (hk:p.awp P h Q):(Prog.chk o v p).awp P h Q:=⟨hs,hk⟩
theorem least {p:Nat→Prop}:∀ n,p n→∃ k,p k∧∀ j,p j→k≤j:=by
 intro n
 induction n using Nat.strongRecOn with
 |_ n ih=>
  intro hn
  by_cases e:∃ j,j < n∧p j
  ·obtain⟨j,h1,h2⟩:=e;exact ih j h1 h2
  ·refine⟨n,hn,fun j hj=>?_⟩
   by_cases h:n≤j
   ·exact h
   ·exact absurd ⟨j,by omega,hj⟩ e
theorem GY {init:List AV} {body:List AV→Prog} {ka:Nat→List AV→Prog} (I:Nat→List AV→AH→Prop) (n:Nat) (h0:I n init h)
  (hr:∀ n vs h1,I n vs h1→(body vs).awp P h1 fun tag vs' h'=>if tag=0 then ∃ n',n' < n∧I n' vs' h' else(ka tag vs').awp P h' Q):(Prog.loop init body ka).awp P h Q:=by
 classical
 refine⟨fun vs h=>∃ n,I n vs h,fun vs h=>if g:∃ k,I k vs h∧∀ j,I j vs h→k≤j then g.choose else 0,⟨n,h0⟩,?_⟩
 rintro vs h1 ⟨n1,hI⟩
 have g1:=least (p:=fun n=>I n vs h1) n1 hI
 have key:=hr g1.choose vs h1 g1.choose_spec.1
 refine Prog.yE _ key fun t vs' h' gg=>?_
 split
 ·rename_i ht
  rw[if_pos ht] at gg
  obtain⟨n',hlt,hn⟩:=gg
  have g2:=least (p:=fun n=>I n vs' h') n' hn
  refine⟨⟨n',hn⟩,?_⟩
  simp only[dif_pos g1,dif_pos g2]
  exact Nat.lt_of_le_of_lt (g2.choose_spec.2 n' hn) hlt
 ·rename_i ht
  rw[if_neg ht] at gg;exact gg
theorem aT {init:List AV} {body:List AV→Prog} {ka:Nat→List AV→Prog} (n:Nat) (J:Nat→List AV→AH→Prop) (h0:J 0 init h)
  (hr:∀ i vs h1,i≤n→J i vs h1→(body vs).awp P h1 fun tag vs' h'=>if tag=0 then i < n∧J (i+1) vs' h' else(ka tag vs').awp P h' Q):(Prog.loop init body ka).awp P h Q:=by
 refine GY (fun k vs h=>k≤n∧J (n - k) vs h) n ⟨Nat.le_refl _,by simpa using h0⟩ ?_
 rintro k vs h1 ⟨hk,hJ⟩
 refine Prog.yE _ (hr (n - k) vs h1 (by omega) hJ) fun t vs' h' gg=>?_
 split
 ·rename_i ht
  rw[if_pos ht] at gg
  exact⟨k - 1,by omega,by omega,by have:n - (k - 1)=n - k+1:=(by omega);rw[this];exact gg.2⟩
 ·rename_i ht
  rw[if_neg ht] at gg;exact gg
theorem g0 (a:AV) (vs:List AV):g (a::vs) 0=a:=rfl
theorem g1 (x0 x1:AV) (vs:List AV):g (x0::x1::vs) 1=x1:=rfl
theorem g2 (x0 x1 x2:AV) (vs:List AV):g (x0::x1::x2::vs) 2=x2:=rfl
theorem g3 (x0 x1 x2 x3:AV) (vs:List AV):g (x0::x1::x2::x3::vs) 3=x3:=rfl
theorem g4 (x0 x1 x2 x3 x4:AV) (vs:List AV):g (x0::x1::x2::x3::x4::vs) 4=x4:=rfl
theorem g5 (x0 x1 x2 x3 x4 x5:AV) (vs:List AV):g (x0::x1::x2::x3::x4::x5::vs) 5=x5:=rfl
theorem g6 (x0 x1 x2 x3 x4 x5 x6:AV) (vs:List AV):g (x0::x1::x2::x3::x4::x5::x6::vs) 6=x6:=rfl
theorem g7 (x0 x1 x2 x3 x4 x5 x6 x7:AV) (vs:List AV):g (x0::x1::x2::x3::x4::x5::x6::x7::vs) 7=x7:=rfl
theorem g8 (x0 x1 x2 x3 x4 x5 x6 x7 x8:AV) (vs:List AV):g (x0::x1::x2::x3::x4::x5::x6::x7::x8::vs) 8=x8:=rfl
theorem g9 (x0 x1 x2 x3 x4 x5 x6 x7 x8 x9:AV) (vs:List AV):g (x0::x1::x2::x3::x4::x5::x6::x7::x8::x9::vs) 9=x9:=rfl
theorem jW {X Y:Prop} (hx:X):if(0:Nat)=0 then X else Y:=by rw[if_pos rfl];exact hx
theorem tJ {t:Nat} {X Y:Prop} (ht:t≠0) (hy:Y):if t=0 then X else Y:=by rw[if_neg ht];exact hy
theorem qj {n:Nat} {p q:Prog} (hk:p.awp P h Q):(aB n n p q).awp P h Q:=by simpa[aB] using hk
theorem qh {t n:Nat} {p q:Prog} (hn:t≠n) (hk:q.awp P h Q):(aB t n p q).awp P h Q:=by simpa[aB,hn] using hk
theorem alQ {n:Nat} {p q:Prog}:aB n n p q=p:=by simp[aB]
end
end Go.Ab
end
section
namespace Go.Ab
open Go.RowKit
def At (h:AH) (b o:Nat) (cs:List AV):Prop:=b < h.n∧live h b∧((h.get b).cells.drop o).take cs.length=cs
theorem At.ext {h h':AH} {b o:Nat} {cs:List AV} (a:At h b o cs) (e:Ext h h'):At h' b o cs:=by
 obtain⟨h1,h2,h3⟩:=a
 have:=e.2 b h1
 exact⟨Nat.lt_of_lt_of_le h1 e.1,by unfold live;rw[this];exact h2,by rw[this];exact h3⟩
theorem At.get {h:AH} {b o:Nat} {cs:List AV} (a:At h b o cs) {j:Nat} {v:AV} (hv:cs[j]? =some v):(h.get b).cells[o+j]? =some v:=by
 have:=a.2.2
 rw[←this,List.getElem?_take] at hv
 split at hv
 ·rw[List.getElem?_drop] at hv;exact hv
 ·cases hv
theorem At.drop {h:AH} {b o:Nat} {cs:List AV} (a:At h b o cs) (j:Nat):At h b (o+j) (cs.drop j):=by
 refine⟨a.1,a.2.1,?_⟩
 have:=a.2.2
 rw[←List.drop_drop,List.length_drop,←List.drop_take,this]
theorem At.take {h:AH} {b o:Nat} {cs:List AV} (a:At h b o cs) (n:Nat):At h b o (cs.take n):=by
 refine⟨a.1,a.2.1,?_⟩
 have:=a.2.2
 rw[List.length_take]
 conv=>rhs;rw[←this]
 rw[List.take_take]
def ShR (h:AH) (w:Nat) (v:AV) (n:Nat) (R:List AV→List Nat→Prop) (F:List Nat):Prop:=
 (v= .aC∧n=0∧F=[])∨
 ∃ b off F' cs,v= .sl b off n∧F=b::F'∧b < h.n∧live h b∧(h.get b).es=w∧off+n * w≤(h.get b).cells.length∧n < 281474976710656∧cs=((h.get b).cells.drop off).take (n * w)∧R cs F'
class Cel (α:Type) where
 w:Nat
 rep:AH→α→List AV→List Nat→Prop
 pos:0 < w
 len:∀ {h x cs F},rep h x cs F→cs.length=w
 lt:∀ {h x cs F},rep h x cs F→∀ b∈F,b < h.n
 keep:∀ {h h' x cs F},rep h x cs F→(∀ b∈F,h'.get b=h.get b∧b < h'.n)→rep h' x cs F
 ok:α→Prop
def bT {α:Type} [Cel α] (h:AH):List α→List AV→List Nat→Prop
 |[],cs,F=>cs=[]∧F=[]
 |x::xs,cs,F=>∃ c1 c2 F1 F2,cs=c1++c2∧F=F1++F2∧Cel.rep h x c1 F1∧bT h xs c2 F2
def au {α:Type} [Cel α] (h:AH) (v:AV) (xs:List α) (F:List Nat):Prop:=ShR h (Cel.w α) v xs.length (bT h xs) F
section
variable{α:Type} [Cel α] {h h':AH}
theorem bT.length:∀ {xs:List α} {cs:List AV} {F:List Nat},bT h xs cs F→cs.length=xs.length * Cel.w α
 |[],cs,F,r=>by obtain⟨rfl,_⟩:=r;simp
 |x::xs,cs,F,r=>by
  obtain⟨c1,c2,F1,F2,rfl,rfl,r1,r2⟩:=r
  have:=Cel.len r1
  have:=bT.length r2
  simp[Nat.succ_mul];omega
theorem bT.lt:∀ {xs:List α} {cs:List AV} {F:List Nat},bT h xs cs F→∀ b∈F,b < h.n
 |[],cs,F,r=>by obtain⟨_,rfl⟩:=r;simp
 |x::xs,cs,F,r=>by
  obtain⟨c1,c2,F1,F2,rfl,rfl,r1,r2⟩:=r
  intro b hb
  rcases List.mem_append.1 hb with hb|hb
  ·exact Cel.lt r1 b hb
  ·exact r2.lt b hb
theorem bT.keep:∀ {xs:List α} {cs:List AV} {F:List Nat},bT h xs cs F→(∀ b∈F,h'.get b=h.get b∧b < h'.n)→bT h' xs cs F
 |[],cs,F,r,_=>r
 |x::xs,cs,F,r,k=>by
  obtain⟨c1,c2,F1,F2,rfl,rfl,r1,r2⟩:=r
  exact⟨c1,c2,F1,F2,rfl,rfl,Cel.keep r1 fun b hb=>k b (List.mem_append_left _ hb),r2.keep fun b hb=>k b (List.mem_append_right _ hb)⟩
theorem bT.get:∀ {xs:List α} {cs:List AV} {F:List Nat},bT h xs cs F→∀ {i:Nat} {x:α},xs[i]? =some x→∃ Fi,Cel.rep h x ((cs.drop (i * Cel.w α)).take (Cel.w α)) Fi∧∀ b∈Fi,b∈F
 |[],cs,F,r,i,x,hx=>by simp at hx
 |y::xs,cs,F,r,i,x,hx=>by
  obtain⟨c1,c2,F1,F2,rfl,rfl,r1,r2⟩:=r
  have hl:=Cel.len r1
  cases i with
  |zero=>
   simp at hx;subst hx
   refine⟨F1,?_,fun b hb=>List.mem_append_left _ hb⟩
   simp[List.take_append,←hl]
   exact r1
  |succ i=>
   simp at hx
   obtain⟨Fi,g1,g2⟩:=r2.get hx
   refine⟨Fi,?_,fun b hb=>List.mem_append_right _ (g2 b hb)⟩
   have:(c1++c2).drop ((i+1) * Cel.w α)=c2.drop (i * Cel.w α):=by
    rw[Nat.succ_mul,Nat.add_comm,←hl,List.drop_append]
    simp
   rw[this];exact g1
theorem au.lt {v:AV} {xs:List α} {F:List Nat} (r:au h v xs F):∀ b∈F,b < h.n:=by
 rcases r with⟨_,_,rfl⟩|⟨b,off,F',cs,_,rfl,h1,_,_,_,_,_,h2⟩
 ·simp
 ·intro x hx
  rcases List.mem_cons.1 hx with e|e
  ·rw[e];exact h1
  ·exact h2.lt x e
theorem au.keep {v:AV} {xs:List α} {F:List Nat} (r:au h v xs F) (k:∀ b∈F,h'.get b=h.get b∧b < h'.n):au h' v xs F:=by
 rcases r with g|⟨b,off,F',cs,e1,rfl,h1,h2,h3,h4,h5,h6,h7⟩
 ·exact .inl g
 ·have kb:=k b (by simp)
  refine .inr ⟨b,off,F',cs,e1,rfl,kb.2,?_,?_,?_,h5,?_,h7.keep fun x hx=>k x (by simp[hx])⟩
  ·unfold live;rw[kb.1];exact h2
  ·rw[kb.1];exact h3
  ·rw[kb.1];exact h4
  ·rw[kb.1];exact h6
theorem au.ext {v:AV} {xs:List α} {F:List Nat} (r:au h v xs F) (e:Ext h h'):au h' v xs F:=
 r.keep fun b hb=>⟨e.2 b (r.lt b hb),Nat.lt_of_lt_of_le (r.lt b hb) e.1⟩
theorem iW {x:α} {cs:List AV} {F:List Nat} (r:Cel.rep h x cs F) (e:Ext h h'):Cel.rep h' x cs F:=
 Cel.keep r fun b hb=>⟨e.2 b (Cel.lt r b hb),Nat.lt_of_lt_of_le (Cel.lt r b hb) e.1⟩
theorem au.small {v:AV} {xs:List α} {F:List Nat} (r:au h v xs F):xs.length < 281474976710656:=by
 rcases r with⟨_,h1,_⟩|⟨_,_,_,_,_,_,_,_,_,_,h1,_⟩<;>omega
theorem au.aC:au h .aC ([]:List α) []:=.inl ⟨rfl,rfl,rfl⟩
theorem au.mid {v:AV} {xs:List α} {F:List Nat} (r:au h v xs F):yY 0 v=true∧mg v=some xs.length:=by
 rcases r with⟨rfl,h1,_⟩|⟨_,_,_,_,rfl,_⟩
 ·simp[yY,mg,h1]
 ·simp[yY,mg]
theorem au.elem {v:AV} {xs:List α} {F:List Nat} (r:au h v xs F) {i:Nat} {x:α} (hx:xs[i]? =some x):
  ∃ b off cs Fi,v= .sl b off xs.length∧At h b (off+i * Cel.w α) cs∧Cel.rep h x cs Fi∧(∀ y∈Fi,y∈F):=by
 have hi:i < xs.length:=(List.getElem?_eq_some_iff.1 hx).1
 rcases r with⟨_,h1,_⟩|⟨b,off,F',cs,e1,rfl,h1,h2,h3,h4,h5,h6,h7⟩
 ·omega
 ·obtain⟨Fi,g1,g2⟩:=h7.get hx
  refine⟨b,off,_,Fi,e1,⟨h1,h2,?_⟩,g1,fun y hy=>by simp[g2 y hy]⟩
  rw[Cel.len g1,h6,List.drop_take,List.drop_drop,List.take_take]
  have:i * Cel.w α+Cel.w α≤xs.length * Cel.w α:=by
   have:=Nat.mul_le_mul_right (Cel.w α) (show i+1≤xs.length from hi)
   rw[Nat.succ_mul] at this;exact this
  rw[Nat.min_eq_left (by omega)]
end
section
variable{α:Type} [Cel α] {P:Program} {h h0:AH} {Q:Nat→List AV→AH→Prop} {k:AV→Prog}
theorem bP {v:AV} {xs:List α} {F:List Nat} (r:au h0 v xs F) (hk:(k (.int .i64 xs.length)).awp P h Q):(Prog.op (.len 0 v) k).awp P h Q:=by
 obtain⟨h1,h2⟩:=r.mid
 simp only[Prog.awp,AOp.go,h1,h2];exact hk
theorem bV {v:AV} {xs:List α} {F:List Nat} {es i:Nat} {q:IntKind} {x:α} (r:au h0 v xs F) (hx:xs[i]? =some x) (hw:es=Cel.w α)
  (hk:∀ b o cs Fi,At h0 b o cs→Cel.rep h0 x cs Fi→(∀ y∈Fi,y∈F)→(k (.ptr b o)).awp P h Q):(Prog.op (.idx es v (.int q i)) k).awp P h Q:=by
 subst hw
 obtain⟨b,off,cs,Fi,rfl,h1,h2,h3⟩:=r.elem hx
 have hi:i < xs.length:=(List.getElem?_eq_some_iff.1 hx).1
 simp only[Prog.awp,AOp.go]
 exact⟨Int.natCast_nonneg _,by omega,by simpa using hk _ _ cs Fi h1 h2 h3⟩
theorem vV {v:AV} {xs:List α} {F:List Nat} {es:Nat} {i:Int} {q:IntKind} {x:α} (r:au h0 v xs F) (hi:0≤i) (hx:xs[i.toNat]? =some x) (hw:es=Cel.w α)
  (hk:∀ b o cs Fi,At h0 b o cs→Cel.rep h0 x cs Fi→(∀ y∈Fi,y∈F)→(k (.ptr b o)).awp P h Q):(Prog.op (.idx es v (.int q i)) k).awp P h Q:=by
 have:=bV (P:=P) (h:=h) (Q:=Q) (k:=k) (q:=q) r hx hw hk
 rwa [Int.toNat_of_nonneg hi] at this
theorem vF {b o:Nat} {v:AV} {cs:List AV} (a:At h0 b o (v::cs)) (e:Ext h0 h) (hk:(k v).awp P h Q):(Prog.op (.ld1 (.ptr b o)) k).awp P h Q:=by
 have a:=a.ext e
 exact Yz (by simpa using a.get (j:=0) rfl) a.2.1 hk
theorem jf {b o n:Nat} {cs cs':List AV} (a:At h0 b o cs) (e:Ext h0 h) (h0:0 < n) (hc:cs.take n=cs') (hn:cs'.length=n) (hk:(k (.agg cs')).awp P h Q):(Prog.op (.ldn n (.ptr b o)) k).awp P h Q:=by
 have a:=(a.ext e).take n
 rw[hc] at a
 refine Yy ?_ h0 hn a.2.1 hk
 have:=a.2.2
 rw[hn] at this;exact this
theorem jc {j:Nat} (hj:j < 4611686018427387904) (hk:(k (.int .i64 ((j+1:Nat):Int))).awp P h Q):(Prog.op (.bin 0 .add (.int .i64 (j:Int)) (.int .i64 1)) k).awp P h Q:=by
 refine eu ?_
 rw[kL (by omega) (by omega)]
 simpa using hk
theorem jY {h:AH} {cs:List AV} {es:Nat}:At (h.push ⟨cs,es,0⟩) h.n 0 cs:=by
 refine⟨by simp,by simp[live],by simp⟩
theorem At.push {h:AH} {b o:Nat} {cs:List AV} (a:At h b o cs) (k:Blk):At (h.push k) b o cs:=a.ext ((Ext.refl _).push k)
theorem Sd (h:AH) (k k':Blk):(h.push k).upd h.n k'=h.push k':=by
 unfold AH.push AH.upd
 simp only[AH.mk.injEq,true_and]
 funext i
 by_cases e:i=h.n<;>simp[e]
theorem aiG {h:AH} {b:Nat} (hb:b < h.n) (k k':Blk):(h.push k).upd b k'=(h.upd b k').push k:=by
 unfold AH.push AH.upd
 simp only[AH.mk.injEq,true_and]
 funext i
 by_cases e:i=h.n
 ·have:i≠b:=by omega
  simp[e];omega
 ·simp[e]
theorem yL {n o:Nat} {x:AV} {cs xs:List AV} {es:Nat} (hx:x.cells? =some xs) (hn:xs.length=n) (ho:o+n≤cs.length) (hk:(k (.tup [])).awp P (h.push ⟨splice cs o xs,es,0⟩) Q):
  (Prog.op (.st n (.ptr h.n o) x) k).awp P (h.push ⟨cs,es,0⟩) Q:=by
 refine zl (by simp[mine]) hx hn (by simpa using ho) ?_
 simp only[Gj,if_true,Sd];exact hk
theorem bW {n:Nat} {a x:AV} (x':(Prog.op (.st n a x) k).awp P h Q):(Prog.op (.st n a x) k).awp P h Q:=x'
theorem aY {n:Nat} {a x:AV} (x':(Prog.op (.idx n a x) k).awp P h Q):(Prog.op (.idx n a x) k).awp P h Q:=x'
theorem vP {zero cs:List AV} {parts:List (Nat × Nat × AV)} (hc:cZ zero parts=some cs) (hk:(k (.agg cs)).awp P h Q):(Prog.op (.build zero parts) k).awp P h Q:=by
 simp only[Prog.awp,AOp.go,hc];exact hk
theorem Xc {r:RV} {v:AV} (hr:r.get h=some v) (hk:Q 1 [v] h):(Prog.fin [r]).awp P h Q:=by
 simp only[Prog.awp,pF,hr];exact hk
theorem vO {r r2:RV} {v v2:AV} (hr:r.get h=some v) (hr2:r2.get h=some v2) (hk:Q 1 [.tup [v,v2]] h):(Prog.fin [r,r2]).awp P h Q:=by
 simp only[Prog.awp,pF,hr,hr2];exact hk
theorem akN {r r2 r3:RV} {v v2 v3:AV} (hr:r.get h=some v) (hr2:r2.get h=some v2) (hr3:r3.get h=some v3) (hk:Q 1 [.tup [v,v2,v3]] h):(Prog.fin [r,r2,r3]).awp P h Q:=by
 simp only[Prog.awp,pF,hr,hr2,hr3];exact hk
end
theorem aP {α:Type} {xs:List α} {i:Nat} (hi:i < xs.length):∃ x,xs[i]? =some x∧xs.drop i=x::xs.drop (i+1)∧xs.take (i+1)=xs.take i++[x]:=
 ⟨xs[i],List.getElem?_eq_getElem hi,List.drop_eq_getElem_cons hi,by rw[List.take_add_one,List.getElem?_eq_getElem hi];rfl⟩
section
variable{α:Type} [Cel α] {P:Program} {h h0:AH} {Q:Nat→List AV→AH→Prop} {k:AV→Prog}
end
end Go.Ab
end
section
namespace Go.Ab
open Go.RowKit
def rng (x:Int):Prop:=-9223372036854775808≤x∧x≤9223372036854775807
instance:Cel Int where
 w:=1
 ok:=rng
 rep:=fun h x cs F=>cs=[.int .i64 x]∧F=[]
 pos:=by decide
 len:=by rintro h x cs F ⟨rfl,rfl⟩;rfl
 lt:=by rintro h x cs F ⟨rfl,rfl⟩;simp
 keep:=by rintro h h' x cs F r _;exact r
instance:Cel Bool where
 w:=1
 ok:=fun _=>True
 rep:=fun h x cs F=>cs=[.bool x]∧F=[]
 pos:=by decide
 len:=by rintro h x cs F ⟨rfl,rfl⟩;rfl
 lt:=by rintro h x cs F ⟨rfl,rfl⟩;simp
 keep:=by rintro h h' x cs F r _;exact r
instance:Cel ByteArray where
 w:=1
 ok:=fun s=>s.size≤maxLen
 rep:=fun h x cs F=>cs=[.str x]∧F=[]
 pos:=by decide
 len:=by rintro h x cs F ⟨rfl,rfl⟩;rfl
 lt:=by rintro h x cs F ⟨rfl,rfl⟩;simp
 keep:=by rintro h h' x cs F r _;exact r
instance{α:Type} [Cel α]:Cel (List α) where
 w:=1
 ok:=fun xs=>∀ x∈xs,Cel.ok x
 rep:=fun h x cs F=>∃ v,cs=[v]∧au h v x F
 pos:=by decide
 len:=by rintro h x cs F ⟨v,rfl,_⟩;rfl
 lt:=by rintro h x cs F ⟨v,rfl,r⟩;exact r.lt
 keep:=by rintro h h' x cs F ⟨v,rfl,r⟩ k;exact⟨v,rfl,r.keep k⟩
structure bJ where
 trace:Int
 stamp:Int
 keep:Bool
def bJ.cs (x:bJ):List AV:=[.int .i64 x.trace,.int .i64 x.stamp,.bool x.keep]
instance:Cel bJ where
 w:=3
 ok:=fun x=>rng x.trace∧rng x.stamp
 rep:=fun h x cs F=>cs=x.cs∧F=[]
 pos:=by decide
 len:=by rintro h x cs F ⟨rfl,rfl⟩;rfl
 lt:=by rintro h x cs F ⟨rfl,rfl⟩;simp
 keep:=by rintro h h' x cs F r _;exact r
end Go.Ab
end
section
namespace Go.Ab
open Go.RowKit
def Own (n:Nat) (h:AH) (F:List Nat):Prop:=F.Nodup∧∀ b∈F,n≤b∧(h.get b).st=0
theorem Own.nil {n:Nat} {h:AH}:Own n h []:=⟨List.nodup_nil,by simp⟩
theorem Own.mono {n n':Nat} {h h':AH} {F:List Nat} (o:Own n h F) (hn:n'≤n) (hk:∀ b∈F,h'.get b=h.get b):Own n' h' F:=
 ⟨o.1,fun b hb=>⟨Nat.le_trans hn (o.2 b hb).1,by rw[hk b hb];exact(o.2 b hb).2⟩⟩
section
variable{α:Type} [Cel α] {P:Program} {h h':AH} {Q:Nat→List AV→AH→Prop} {k:AV→Prog}
theorem bT.ext {xs:List α} {cs:List AV} {F:List Nat} (r:bT h xs cs F) (e:Ext h h'):bT h' xs cs F:=
 r.keep fun b hb=>⟨e.2 b (r.lt b hb),Nat.lt_of_lt_of_le (r.lt b hb) e.1⟩
theorem bT.snoc:∀ {xs:List α} {cs:List AV} {F:List Nat} (_:bT h xs cs F) {x:α} {c:List AV} {G:List Nat} (_:Cel.rep h x c G),bT h (xs++[x]) (cs++c) (F++G)
 |[],cs,F,r,x,c,G,rx=>by
  obtain⟨rfl,rfl⟩:=r
  exact⟨c,[],G,[],by simp,by simp,rx,rfl,rfl⟩
 |y::ys,cs,F,r,x,c,G,rx=>by
  obtain⟨c1,c2,F1,F2,rfl,rfl,r1,r2⟩:=r
  exact⟨c1,c2++c,F1,F2++G,by simp,by simp,r1,r2.snoc rx⟩
theorem MB {es bytes n:Nat} {zero:List AV} (hb:n * bytes≤70368744177664) (hk:(k (.sl h.n 0 n)).awp P (h.push ⟨(List.replicate n zero).flatten,es,0⟩) Q):(Prog.op (.iw es bytes zero (.int .i64 n) (.int .i64 n)) k).awp P h Q:=by
 simp only[Prog.awp,AOp.go]
 refine⟨Int.natCast_nonneg _,trivial,by omega,by simpa using hk⟩
theorem mK {b off n es i:Nat} {q:IntKind} (hi:i < n) (hk:(k (.ptr b (off+i * es))).awp P h Q):(Prog.op (.idx es (.sl b off n) (.int q i)) k).awp P h Q:=by
 simp only[Prog.awp,AOp.go]
 exact⟨Int.natCast_nonneg _,by omega,by simpa using hk⟩
def Nu (w bytes:Nat) (zero:List AV) (c:Nat) (x0:AV):Prog:=.op (.len 0 x0) fun v=>.op (.iw w bytes zero v v) fun v=>.loop [AV.int .i64 0] (fun vs=>.op (.len 0 x0) fun v_1=>.op (.bin 0 .lss (g vs 0) v_1) fun v_2=>.ite v_2 (.op (.idx w x0 (g vs 0)) fun v_3=>.op (.ldn w v_3) fun v_4=>.op (.call c [v_4]) fun v_5=>.op (.idx w v (g vs 0)) fun v=>.op (.st w v v_5) fun v=>.op (.bin 0 .add (g vs 0) (AV.int .i64 1)) fun v=>.leaf 0 [v]) (.leaf 2 [g vs 0])) fun t vs=>aB t 1 (.leaf 1 vs) (aB t 2 (.fin [.val v]) .bad)
def dO (α:Type) [Cel α] (P:Program) (c:FuncId) (x:α):Prop:=∀ (cs:List AV) (F:List Nat) (h:AH),Cel.rep h x cs F→bN P c [.agg cs] h fun v h'=>Ext h h'∧∃ cs' F',v= .agg cs'∧Cel.rep h' x cs' F'∧Own h.n h' F'
theorem sQ {A C Z:List AV} {n:Nat} (hA:A.length=n) (hZ:C.length≤Z.length):splice (A++Z) n C=A++C++Z.drop C.length:=by
 subst hA
 unfold splice
 simp[List.drop_append,Nat.add_sub_cancel_left]
theorem L9 {n:Nat} {z:List AV}:((List.replicate n z).flatten).length=n * z.length:=by simp
theorem VX {n:Nat} {z:List AV}:((List.replicate (n+1) z).flatten).drop z.length=(List.replicate n z).flatten:=by
 simp[List.replicate_succ]
theorem toSx_spec {w bytes c n:Nat} {zero:List AV} (hw:w=Cel.w α) (hz:zero.length=w) (hbn:bytes=n) {xs:List α} (hc:∀ x∈xs,dO α P c x) {x0:AV} {F:List Nat} (r:au h x0 xs F) (hs:xs.length * n≤70368744177664):
  (Nu w bytes zero c x0).awp P h fun t vs h'=>t=1∧∃ v,vs=[v]∧Ext h h'∧∃ F',au h' v xs F'∧Own h.n h' F':=by
 subst hw hbn
 unfold Nu
 have hsm:=r.small
 have hpos:=Cel.pos (α:=α)
 refine bP r (MB hs ?_)
 refine aT xs.length (fun i vs h1=>vs=[.int .i64 (i:Int)]∧i≤xs.length∧Ext h h1∧h.n < h1.n∧∃ A FA,h1.get h.n=⟨A++(List.replicate (xs.length - i) zero).flatten,Cel.w α,0⟩∧bT h1 (xs.take i) A FA∧Own (h.n+1) h1 FA) ?_ ?_
 ·exact⟨rfl,Nat.zero_le _,(Ext.refl h).push _,by simp,[],[],by simp,⟨rfl,rfl⟩,Own.nil⟩
 ·rintro i vs h1 _ ⟨rfl,hi,e,hn,A,FA,hg,ra,oa⟩
  refine bP r (iH ?_ ?_)
  ·intro hlt
   have hlt:i < xs.length:=by simp[g] at hlt;exact hlt
   obtain⟨x,hx,_,htk⟩:=aP hlt
   refine dM (bV r hx rfl ?_)
   intro b o cs Fi a rx _
   have hl:=Cel.len rx
   refine jf a e hpos (by rw[List.take_of_length_le (by omega)]) hl (aK (hc x (List.mem_of_getElem? hx) cs Fi h1 (iW rx e)) ?_)
   rintro v h2 ⟨e2,cs',F',rfl,rx',o'⟩
   have hl':=Cel.len rx'
   have hA:=ra.length
   rw[List.length_take,Nat.min_eq_left hi] at hA
   have hg2:h2.get h.n=⟨A++(List.replicate (xs.length - i) zero).flatten,Cel.w α,0⟩:=by rw[e2.2 _ hn];exact hg
   have hle:i * Cel.w α+Cel.w α≤xs.length * Cel.w α:=by
    have:=Nat.mul_le_mul_right (Cel.w α) (show i+1≤xs.length from hlt)
    rw[Nat.succ_mul] at this;exact this
   have hZ:((List.replicate (xs.length - i) zero).flatten).length=xs.length * Cel.w α - i * Cel.w α:=by rw[L9,hz,Nat.mul_sub_right_distrib]
   refine mK (i:=i) hlt ?_
   refine zl (by simp[mine,hg2]) rfl hl' (by simp only[hg2,List.length_append,hZ,hA];omega) ?_
   refine jc (j:=i) (by omega) ?_
   refine dQ ?_
   simp only[hg2,Nat.zero_add]
   simp only[if_true]
   refine⟨hlt,trivial,hlt,(e.trans e2).upd (Nat.le_refl _) _,Nat.lt_of_lt_of_le hn e2.1,A++cs',FA++F',?_,?_,?_⟩
   ·have:xs.length - i=xs.length - (i+1)+1:=by omega
    simp only[gY,if_true]
    rw[sQ hA (by rw[hZ];omega),this,hl',←hz,VX,hz]
   ·rw[htk]
    have keep:∀ b,h.n < b→b < h2.n→(h2.upd h.n {h2.get h.n with cells:=splice (A++(List.replicate (xs.length - i) zero).flatten) (i * Cel.w α) cs'}).get b=h2.get b∧b < (h2.upd h.n {h2.get h.n with cells:=splice (A++(List.replicate (xs.length - i) zero).flatten) (i * Cel.w α) cs'}).n:=by
     intro b hb hb2
     have:b≠h.n:=by omega
     exact⟨by simp[this],hb2⟩
    simp only[hg2] at keep
    refine((ra.ext e2).keep fun b hb=>keep b (oa.2 b hb).1 ((ra.ext e2).lt b hb)).snoc (Cel.keep rx' fun b hb=>keep b (by have:=(o'.2 b hb).1;omega) (Cel.lt rx' b hb))
   ·refine⟨List.nodup_append.2 ⟨oa.1,o'.1,?_⟩,?_⟩
    ·intro a ha b hb e
     subst e
     have:=ra.lt a ha
     have:=(o'.2 a hb).1
     omega
    ·intro b hb
     have hb2:h.n < b∧(h2.get b).st=0:=by
      rcases List.mem_append.1 hb with hb|hb
      ·have h1:=oa.2 b hb
       exact⟨h1.1,by rw[e2.2 b (ra.lt b hb)];exact h1.2⟩
      ·have h1:=o'.2 b hb
       exact⟨by omega,h1.2⟩
     have:b≠h.n:=by omega
     exact⟨hb2.1,by simp[this,hb2.2]⟩
  ·intro hge
   have hge: ¬ i < xs.length:=by simp[g] at hge;omega
   have hi':i=xs.length:=by omega
   subst hi'
   refine dP (dQ ?_)
   simp only[aB,g]
   simp only[show(2:Nat)≠0 by decide,show(2:Nat)≠1 by decide,if_false,if_true]
   refine eY ⟨rfl,_,rfl,e,h.n::FA,.inr ⟨h.n,0,FA,A,rfl,rfl,hn,?_,?_,?_,hsm,?_,?_⟩,?_⟩
   ·simp[live,hg]
   ·simp[hg]
   ·have:=ra.length
    simp at this
    simp[hg,this]
   ·have:=ra.length
    simp at this
    simp[hg,←this]
   ·simpa using ra
   ·refine⟨List.nodup_cons.2 ⟨fun hm=>?_,oa.1⟩,?_⟩
    ·have:=(oa.2 _ hm).1;omega
    ·intro b hb
     rcases List.mem_cons.1 hb with rfl|hb
     ·exact⟨Nat.le_refl _,by simp[hg]⟩
     ·exact⟨by have:=(oa.2 b hb).1;omega,(oa.2 b hb).2⟩
end
end Go.Ab
end
section
namespace Go.Ab
open Go.RowKit
class Sz (α:Type) where
 sz:α→Nat
def szs {α:Type} [Sz α]:List α→Nat
 |[]=>0
 |x::xs=>Sz.sz x+szs xs
theorem Wn {α:Type} [Sz α] {xs:List α} {i:Nat} {x:α} (htk:xs.take (i+1)=xs.take i++[x]):szs (xs.take (i+1))=szs (xs.take i)+Sz.sz x:=by
 rw[htk]
 generalize xs.take i=l
 induction l with
 |nil=>simp[szs]
 |cons y l ih=>simp[szs,ih];omega
theorem jJ {α:Type} [Sz α]:∀ (xs:List α) (i:Nat),szs (xs.take i)≤szs xs
 |[],i=>by simp
 |x::xs,0=>by simp[szs]
 |x::xs,i+1=>by simp[szs];exact jJ xs i
def idx {α:Type} (p:α→Bool) (xs:List α):Int:=if xs.findIdx p < xs.length then(xs.findIdx p:Int) else -1
theorem wu {α:Type} {p:α→Bool} {xs:List α} {i:Nat} {x:α} (hx:xs[i]? =some x) (hp:p x=true) (hn:∀ j y,j < i→xs[j]? =some y→p y=false):idx p xs=(i:Int):=by
 have hi:=(List.getElem?_eq_some_iff.1 hx).1
 have:xs.findIdx p=i:=by
  rw[List.findIdx_eq hi]
  have hx':xs[i]=x:=(List.getElem?_eq_some_iff.1 hx).2
  exact⟨by rw[hx'];exact hp,fun j hj=>hn j _ hj (List.getElem?_eq_getElem (by omega))⟩
 unfold idx
 rw[this,if_pos hi]
theorem BO {α:Type} {p:α→Bool} {xs:List α} (hn:∀ j y,j < xs.length→xs[j]? =some y→p y=false):idx p xs= -1:=by
 have:xs.findIdx p=xs.length:=by
  rw[List.findIdx_eq_length]
  intro x hx
  obtain⟨j,hj,e⟩:=List.getElem_of_mem hx
  exact hn j x hj (by rw[List.getElem?_eq_getElem hj,e])
 unfold idx
 rw[this,if_neg (Nat.lt_irrefl _)]
section
variable{α:Type} [Cel α] {P:Program} {h h':AH} {Q:Nat→List AV→AH→Prop} {k:AV→Prog}
def EqX (α:Type) [Cel α] (P:Program) (c:FuncId) (x:α):Prop:=∀ (cs cs':List AV) (F F':List Nat) (h:AH),Cel.rep h x cs F→Cel.rep h x cs' F'→aM P c [.agg cs,.agg cs'] h (.bool true)
def EqC (α:Type) [Cel α] (P:Program) (c:FuncId):Prop:=∀ x:α,EqX α P c x
def EqS (α:Type) [Cel α] (P:Program) (c:FuncId):Prop:=∀ (xs:List α) (v v':AV) (F F':List Nat) (h:AH),au h v xs F→au h v' xs F'→aM P c [v,v'] h (.bool true)
def Nw (w c:Nat) (x0 x1:AV):Prog:=.op (.len 0 x0) fun v=>.op (.len 0 x1) fun v_1=>.op (.bin 0 .neq v v_1) fun v=>.ite v (.fin [.val (AV.bool false)]) (.loop [AV.int .i64 0] (fun vs=>.op (.len 0 x0) fun v=>.op (.bin 0 .lss (g vs 0) v) fun v=>.ite v (.op (.idx w x0 (g vs 0)) fun v=>.op (.ldn w v) fun v=>.op (.idx w x1 (g vs 0)) fun v_2=>.op (.ldn w v_2) fun v_3=>.op (.call c [v,v_3]) fun v=>.op (.una .not v) fun v=>.ite v (.fin [.val (AV.bool false)]) (.op (.bin 0 .add (g vs 0) (AV.int .i64 1)) fun v=>.leaf 0 [v])) (.leaf 2 [g vs 0])) fun t vs=>aB t 1 (.leaf 1 vs) (aB t 2 (.fin [.val (AV.bool true)]) .bad))
def Post (r:AV) (h:AH):Nat→List AV→AH→Prop:=fun t vs h'=>t=1∧vs=[r]∧Ext h h'
def CC (P:Program) (f:FuncId) (l:List AV) (p:Prog):Prop:=∀ {h:AH} {R:AV→AH→Prop},(p.awp P h fun t vs h'=>t=1∧∃ v,vs=[v]∧R v h')→bN P f l h R
theorem reader {f:FuncId} {args:List AV} {h:AH} {r:AV} {p:Prog} (c:CC P f args p) (ho:old h.n r) (w:p.awp P h (Post r h)):aM P f args h r:=
 ajT (c (Prog.yE _ w fun t vs h' ⟨h1,h2,h3⟩=>⟨h1,r,h2,rfl,h3⟩)) ho
theorem akR {t n:Nat} {p q:Prog} (hn:t≠n):aB t n p q=q:=by simp[aB,hn]
theorem zk {X:Prop} {vs:List AV} {p q:Prog} (hp:p.awp P h Q):if(2:Nat)=0 then X else(aB 2 1 (.leaf 1 vs) (aB 2 2 p q)).awp P h Q:=by
 rw[if_neg (by decide)];exact hp
theorem ends {X:Prop} {n:Nat} {vs:List AV} {p q:Prog} (hp:p.awp P h Q):if n+2=0 then X else(aB (n+2) 1 (.leaf 1 vs) (aB (n+2) (n+2) p q)).awp P h Q:=by
 rw[if_neg (by omega),akR (by omega),alQ];exact hp
theorem nexts {X Y:Prop} (hx:X):if(0:Nat)=0 then X else Y:=by rw[if_pos rfl];exact hx
theorem VZ {w c:Nat} (hw:w=Cel.w α) {xs:List α} (hc:∀ x∈xs,EqX α P c x) {x0 x1:AV} {F F':List Nat} (r:au h x0 xs F) (r':au h x1 xs F'):
  (Nw w c x0 x1).awp P h (Post (.bool true) h):=by
 subst hw
 unfold Nw
 have hsm:=r.small
 have hpos:=Cel.pos (α:=α)
 refine bP r (bP r' (Ca (fun hne=>absurd rfl hne) fun _=>dP ?_))
 refine aT xs.length (fun i vs h1=>vs=[.int .i64 (i:Int)]∧i≤xs.length∧h1=h) ⟨rfl,Nat.zero_le _,rfl⟩ ?_
 rintro i vs h1 _ ⟨rfl,hi,rfl⟩
 refine bP r (iH ?_ ?_)
 ·intro hlt
  have hlt:i < xs.length:=by simp[g] at hlt;exact hlt
  obtain⟨x,hx,_,htk⟩:=aP hlt
  refine dM (bV r hx rfl ?_)
  intro b o cs Fi a rx _
  refine jf a (Ext.refl _) hpos (by rw[List.take_of_length_le (by rw[Cel.len rx];exact Nat.le_refl _)]) (Cel.len rx) (bV r' hx rfl ?_)
  intro b' o' cs' Fi' a' rx' _
  refine jf a' (Ext.refl _) hpos (by rw[List.take_of_length_le (by rw[Cel.len rx'];exact Nat.le_refl _)]) (Cel.len rx') (aJ (hc x (List.mem_of_getElem? hx) cs cs' Fi Fi' h1 rx rx') (qx (dP ?_)))
  refine jc (j:=i) (by omega) ?_
  exact dQ (nexts ⟨hlt,rfl,hlt,rfl⟩)
 ·intro hge
  exact dP (dQ (zk (eY ⟨rfl,rfl,Ext.refl _⟩)))
def szr (b:Int) (s:Nat):Int:=if(s:Int)≤b then b - s else -1
def SzX (α:Type) [Cel α] [Sz α] (P:Program) (c:FuncId) (x:α):Prop:=Cel.ok x→∀ (cs:List AV) (F:List Nat) (b:Int) (h:AH),Cel.rep h x cs F→0≤b→b≤1048576→aM P c [.agg cs,.int .i64 b] h (.int .i64 (szr b (Sz.sz x)))
def SzC (α:Type) [Cel α] [Sz α] (P:Program) (c:FuncId):Prop:=∀ x:α,SzX α P c x
def Za (x0 x1:AV):Prog:=.op (.len 0 x0) fun v=>.op (.bin 0 .sub x1 v) fun v=>.op (.bin 0 .lss v (AV.int .i64 0)) fun v_1=>.ite v_1 (.fin [.val (AV.int .i64 (-1))]) (.fin [.val v])
theorem Wo {xs:List α} {x0:AV} {F:List Nat} {b:Int} (r:au h x0 xs F) (h0:0≤b) (h1:b≤1048576):(Za x0 (.int .i64 b)).awp P h (Post (.int .i64 (szr b xs.length)) h):=by
 have hsm:=r.small
 unfold Za
 refine bP r (vU ?_)
 rw[kL (by omega) (by omega)]
 refine iH (fun hl=>dM (eY ⟨rfl,?_,Ext.refl _⟩)) (fun hl=>dP (eY ⟨rfl,?_,Ext.refl _⟩))
 ·simp only[szr];rw[if_neg (by omega)]
 ·simp only[szr];rw[if_pos (by omega)]
def Nv (w c:Nat) (x0 x1:AV):Prog:=.op (.len 0 x0) fun v=>.op (.bin 0 .sub x1 v) fun v=>.op (.bin 0 .lss v (AV.int .i64 0)) fun v_1=>.ite v_1 (.fin [.val (AV.int .i64 (-1))]) (.loop [v,AV.int .i64 0] (fun vs=>.op (.len 0 x0) fun v=>.op (.bin 0 .lss (g vs 1) v) fun v=>.ite v (.op (.idx w x0 (g vs 1)) fun v=>.op (.ldn w v) fun v=>.op (.call c [v,g vs 0]) fun v=>.op (.bin 0 .lss v (AV.int .i64 0)) fun v_2=>.ite v_2 (.fin [.val (AV.int .i64 (-1))]) (.op (.bin 0 .add (g vs 1) (AV.int .i64 1)) fun v_3=>.leaf 0 [v,v_3])) (.leaf 2 [g vs 0,g vs 1])) fun t vs=>aB t 1 (.leaf 1 vs) (aB t 2 (.fin [.val (g vs 0)]) .bad))
theorem VG [Sz α] {w c:Nat} (hw:w=Cel.w α) {xs:List α} (hc:∀ x∈xs,SzX α P c x) (ok:∀ x∈xs,Cel.ok x) {x0:AV} {F:List Nat} {b:Int} (r:au h x0 xs F) (h0:0≤b) (h1:b≤1048576):
  (Nv w c x0 (.int .i64 b)).awp P h (Post (.int .i64 (szr b (xs.length+szs xs))) h):=by
 subst hw
 have hsm:=r.small
 have hpos:=Cel.pos (α:=α)
 unfold Nv
 refine bP r (vU ?_)
 rw[kL (by omega) (by omega)]
 refine iH (fun hl=>dM (eY ⟨rfl,?_,Ext.refl _⟩)) (fun hl=>dP ?_)
 ·simp only[szr];rw[if_neg (by omega)]
 refine aT xs.length (fun i vs h1=>vs=[.int .i64 (b - xs.length - szs (xs.take i)),.int .i64 (i:Int)]∧0≤b - xs.length - szs (xs.take i)∧i≤xs.length∧h1=h) ⟨by simp[szs],by simp[szs];omega,Nat.zero_le _,rfl⟩ ?_
 rintro i vs h1 _ ⟨rfl,hb,hi,rfl⟩
 refine bP r (iH ?_ ?_)
 ·intro hlt
  have hlt:i < xs.length:=by simp[g] at hlt;exact hlt
  obtain⟨x,hx,_,htk⟩:=aP hlt
  have hs:=Wn htk
  have hle:=jJ xs (i+1)
  refine dM (bV r hx rfl ?_)
  intro bb o cs Fi a rx _
  refine jf a (Ext.refl _) hpos (by rw[List.take_of_length_le (by rw[Cel.len rx];exact Nat.le_refl _)]) (Cel.len rx) (aJ (hc x (List.mem_of_getElem? hx) (ok x (List.mem_of_getElem? hx)) cs Fi _ h1 rx hb (by omega)) ?_)
  refine iH (fun hl=>dM (eY ⟨rfl,?_,Ext.refl _⟩)) (fun hl=>dP ?_)
  ·simp only[szr] at hl ⊢
   split at hl
   ·omega
   ·rw[if_neg (by omega)]
  ·refine jc (j:=i) (by omega) ?_
   refine dQ (nexts ?_)
   have:szr (b - xs.length - szs (xs.take i)) (Sz.sz x)=b - xs.length - szs (xs.take (i+1)):=by
    simp only[szr] at hl ⊢
    split at hl
    ·rename_i hh;rw[if_pos hh];omega
    ·omega
   rw[this] at hl ⊢
   exact⟨hlt,rfl,by omega,hlt,rfl⟩
 ·intro hge
  have:i=xs.length:=by simp[g] at hge;omega
  subst this
  rw[List.take_length] at hb
  refine dP (dQ (zk (eY ⟨rfl,?_,Ext.refl _⟩)))
  simp only[szr,g0,List.take_length]
  rw[if_pos (by omega)]
  rw[show b - ((xs.length+szs xs:Nat):Int)=b - xs.length - szs xs by omega]
theorem vI [Sz α] {w c:Nat} (hw:w=Cel.w α) (hc:SzC α P c) {xs:List α} (ok:∀ x∈xs,Cel.ok x) {x0:AV} {F:List Nat} {b:Int} (r:au h x0 xs F) (h0:0≤b) (h1:b≤1048576):
  (Nv w c x0 (.int .i64 b)).awp P h (Post (.int .i64 (szr b (xs.length+szs xs))) h):=VG hw (fun x _=>hc x) ok r h0 h1
theorem qp {w c:Nat} (hw:w=Cel.w α) (hc:EqC α P c) {xs:List α} {x0 x1:AV} {F F':List Nat} (r:au h x0 xs F) (r':au h x1 xs F'):
  (Nw w c x0 x1).awp P h (Post (.bool true) h):=VZ hw (fun x _=>hc x) r r'
def Ik (w:Nat) (x0 x1:AV):Prog:=.op (.len 0 x0) fun v=>.loop [AV.int .i64 0] (fun vs=>.op (.bin 0 .lss (g vs 0) v) fun v=>.ite v (.op (.idx w x0 (g vs 0)) fun v=>.op (.ldn w v) fun v=>.op (.iC x1 [v]) fun v=>.ite v (.fin [.val (g vs 0)]) (.op (.bin 0 .add (g vs 0) (AV.int .i64 1)) fun v=>.leaf 0 [v])) (.leaf 2 [g vs 0])) fun t vs=>aB t 1 (.leaf 1 vs) (aB t 2 (.fin [.val (AV.int .i64 (-1))]) .bad)
def Looks (α:Type) [Cel α] (P:Program) (h:AH) (f:FuncId) (caps:List AV) (p:α→Bool):Prop:=∀ (x:α) (cs:List AV) (F:List Nat),Cel.rep h x cs F→aM P f (.agg cs::caps) h (.bool (p x))
theorem Gb {w:Nat} (hw:w=Cel.w α) {xs:List α} {x0:AV} {F:List Nat} {f:FuncId} {caps:List AV} {p:α→Bool} (r:au h x0 xs F) (hf:Looks α P h f caps p):
  (Ik w x0 (.fn f caps)).awp P h (Post (.int .i64 (idx p xs)) h):=by
 subst hw
 have hsm:=r.small
 have hpos:=Cel.pos (α:=α)
 unfold Ik
 refine bP r ?_
 refine aT xs.length (fun i vs h1=>vs=[.int .i64 (i:Int)]∧i≤xs.length∧h1=h∧∀ j y,j < i→xs[j]? =some y→p y=false) ⟨rfl,Nat.zero_le _,rfl,fun j y hj=>by omega⟩ ?_
 rintro i vs h1 _ ⟨rfl,hi,rfl,hn⟩
 refine iH ?_ ?_
 ·intro hlt
  have hlt:i < xs.length:=by simp[g] at hlt;exact hlt
  obtain⟨x,hx,_,htk⟩:=aP hlt
  refine dM (bV r hx rfl ?_)
  intro bb o cs Fi a rx _
  refine jf a (Ext.refl _) hpos (by rw[List.take_of_length_le (by rw[Cel.len rx];exact Nat.le_refl _)]) (Cel.len rx) (sU (hf x cs Fi rx) (yT ?_ ?_))
  ·intro hp
   exact eY ⟨rfl,by rw[wu hx hp hn];rfl,Ext.refl _⟩
  ·intro hp
   refine jc (j:=i) (by omega) ?_
   refine dQ (nexts ?_)
   refine⟨hlt,rfl,hlt,rfl,fun j y hj hy=>?_⟩
   by_cases e:j=i
   ·subst e;rw[hx] at hy;cases hy;exact hp
   ·exact hn j y (by omega) hy
 ·intro hge
  have:i=xs.length:=by simp[g] at hge;omega
  subst this
  exact dP (dQ (zk (eY ⟨rfl,by rw[BO hn],Ext.refl _⟩)))
end
end Go.Ab
end
section
namespace Go.Ab
open Go.RowKit
variable{w0 W:World} {B:Nat} {m:BM} {h:AH} {P:Program}
theorem Sim.am5 {w:World} (s:Sim B w0 m h w) (k:Blk) (hst:k.st=1) (p:Pl) (hp:p.rb < B∨k.cells=[]) (hb:wT (m.add h.n p) k p w):
  m.le (m.add h.n p)∧Ext h (h.push k)∧Sim B w0 (m.add h.n p) (h.push k) w:=by
 have hle:m.le (m.add h.n p):=by
  intro b q hq
  have:b≠h.n:=fun e=>by have:=s.dom b q hq;omega
  simp[BM.add,this,hq]
 have old:∀ b q,b≠h.n→m.add h.n p b=some q→m b=some q∧(h.push k).get b=h.get b:=by
  intro b q hne hq
  simp only[BM.add,hne,if_false] at hq
  exact⟨hq,by simp[AH.push,hne]⟩
 have new:∀ q,m.add h.n p h.n=some q→q=p∧(h.push k).get h.n=k:=by
  intro q hq
  simp only[BM.add,if_true,Option.some.injEq] at hq
  exact⟨hq.symm,by simp[AH.push]⟩
 refine⟨hle,(Ext.refl h).push k,s.below,s.room,?_,?_,?_,?_,?_,?_,?_⟩
 ·intro b q hq
  by_cases e:b=h.n
  ·subst e;simp[AH.push]
  ·have:=s.dom b q (old b q e hq).1;simp only[AH.push];omega
 ·intro b q hq hx
  by_cases e:b=h.n
  ·subst e
   obtain⟨rfl,e2⟩:=new q hq
   rw[e2];exact hb
  ·obtain⟨h1,h2⟩:=old b q e hq
   rw[h2] at hx ⊢
   exact(s.blk b q h1 hx).mono hle
 ·intro b q hq hx
  by_cases e:b=h.n
  ·subst e
   obtain⟨rfl,e2⟩:=new q hq
   rw[e2] at hx;omega
  ·obtain⟨h1,h2⟩:=old b q e hq
   rw[h2] at hx ⊢
   exact s.own b q h1 hx
 ·intro b q hq hx
  by_cases e:b=h.n
  ·subst e
   obtain⟨rfl,e2⟩:=new q hq
   rw[e2];exact hp
  ·obtain⟨h1,h2⟩:=old b q e hq
   rw[h2] at hx ⊢
   exact s.old b q h1 hx
 ·intro b b' q q' hne hq hq' hx hx'
  by_cases e:b=h.n
  ·subst e
   obtain⟨rfl,e2⟩:=new q hq
   rw[e2] at hx;omega
  ·obtain⟨h1,h2⟩:=old b q e hq
   rw[h2] at hx ⊢
   by_cases e':b'=h.n
   ·subst e'
    obtain⟨rfl,e2⟩:=new q' hq'
    rw[e2] at hx';omega
   ·obtain⟨h1',h2'⟩:=old b' q' e' hq'
    rw[h2'] at hx' ⊢
    exact s.sep b b' q q' hne h1 h1' hx hx'
 ·intro b
  by_cases e:b=h.n
  ·subst e;simp[AH.push,hst]
  ·simp only[AH.push,e,if_false];exact s.sts b
 ·intro b hb
  have e:b≠h.n:=fun e=>by simp only[AH.push] at hb;omega
  simp only[AH.push,e,if_false] at hb ⊢
  exact s.fresh b (by omega)
def dY (α:Type) [Cel α] (P:Program) (t:TypeId) (fuel:Nat):Prop:=
 ∀ (H:Type) (enc:TypeId × Value→H) (W:World) (held:Bool) (cs:List Value) (d:DataW H) (ps:List MemPlace),DataW.trod enc P W 0 (fun _=>true) held fuel t cs=some (d,ps)→(∀ n∈d.weights P t,n≤reachBytes)→
  ∀ (w0:World) (m:BM) (h:AH),Sim W.heap.size w0 m h W→∃ (m':BM) (h':AH) (avs:List AV) (x:α) (F:List Nat),Ext h h'∧m.le m'∧Sim W.heap.size w0 m' h' W∧aI m' avs cs∧(∀ v∈cs,v.oneCell'=true)∧Cel.rep h' x avs F∧Cel.ok x
theorem AY {av:AV} {v:Value} (r:aG m av v):aI m [av] [v]:=aI.cons r aI.nil
theorem alK {n:Int} (hw:(Lit.int .i64 n).wf=true):rng n:=by
 simp only[Lit.wf,Bool.and_eq_true,decide_eq_true_eq] at hw
 have h1:IntKind.i64.min= -9223372036854775808:=by decide
 have h2:IntKind.i64.max=9223372036854775807:=by decide
 unfold rng
 omega
theorem cB {t:TypeId} {fuel:Nat} (ht:P.underlying t=some (.int .i64)):dY Int P t fuel:=by
 intro H enc W held cs d ps hd _ w0 m h s
 obtain⟨n,rfl,_,hw⟩:=DataW.trod_int ht hd
 exact⟨m,h,[.int .i64 n],n,[],Ext.refl _,m.le_refl,s,AY (by simp only[aG]),by simp[Value.oneCell'],⟨rfl,rfl⟩,alK hw⟩
theorem Sc {H:Type} {e:TypeId}:∀ {l:List (DataW H)},(∀ n∈DataW.weightsAll P e l,n≤reachBytes)→∀ d∈l,∀ n∈d.weights P e,n≤reachBytes
 |[],_,d,hd=>by cases hd
 |x::l,hh,d,hd=>by
  intro n hn
  rcases List.mem_cons.1 hd with rfl|hd
  ·exact hh n (by unfold DataW.weightsAll;exact List.mem_append_left _ hn)
  ·exact Sc (l:=l) (fun n hn=>hh n (by unfold DataW.weightsAll;exact List.mem_append_right _ hn)) d hd n hn
def Cells (m:BM) (W:World) (a:Addr) (avs:List AV):Prop:=∀ (j:Nat) (av:AV),avs[j]? =some av→∃ v,W.cell? ⟨a.block,a.off+j,none⟩=some v∧aG m av v∧v.oneCell'=true
theorem X8 {a:Addr} (ha:a.spot=none) (n:Nat):a.add n=⟨a.block,a.off+n,none⟩:=by
 unfold Addr.add
 split
 ·rename_i h;subst h;cases a;simp_all
 ·rfl
theorem ajP {a:Addr} {v:Value} (h:W.cell? a=some v):a.spot=none:=by
 unfold World.cell? at h
 split at h
 ·split at h
  ·cases h
  ·rename_i hs;simpa using hs
 ·cases h
theorem aiT {α:Type} [Cel α] {e:TypeId} {n:Nat} (hw:P.cellsOf e=Cel.w α) (ho:dY α P e n) {H:Type} {enc:TypeId × Value→H} {held:Bool} {a:Addr} (ha:a.spot=none) {elems:List (DataW H × List MemPlace)} {len:Nat} (hlen:elems.length=len)
  (hel:∀ i,i < len→(W.cells? 0 (a.add (i * P.cellsOf e)) (P.cellsOf e)).bind (DataW.trod enc P W 0 (fun _=>true) held n e)=elems[i]?)
  (hwt:∀ d∈elems.map (·.1),∀ n∈d.weights P e,n≤reachBytes) (s:Sim W.heap.size w0 m h W):
  ∀ k,k≤len→∃ (m':BM) (h':AH) (avs:List AV) (xs:List α) (F:List Nat),Ext h h'∧m.le m'∧Sim W.heap.size w0 m' h' W∧bT h' xs avs F∧xs.length=k∧Cells m' W a avs∧∀ x∈xs,Cel.ok x:=by
 intro k
 induction k with
 |zero=>exact fun _=>⟨m,h,[],[],[],Ext.refl _,m.le_refl,s,⟨rfl,rfl⟩,rfl,fun j av hj=>by simp at hj,by simp⟩
 |succ k ih=>
  intro hk
  obtain⟨m1,h1,avs,xs,F,e1,l1,s1,r1,hx,hc,hok⟩:=ih (by omega)
  have hel:=hel k (by omega)
  rw[List.getElem?_eq_getElem (by omega)] at hel
  cases hcs:W.cells? 0 (a.add (k * P.cellsOf e)) (P.cellsOf e) with
  |none=>rw[hcs] at hel;simp at hel
  |some ck=>
   rw[hcs] at hel
   simp only[Option.bind_some] at hel
   obtain⟨m2,h2,avk,x,Fk,e2,l2,s2,vr,h1c,rx,okx⟩:=ho H enc W held ck _ _ (show _=some (elems[k].1,elems[k].2) from hel) (hwt _ (List.mem_map.2 ⟨elems[k],List.getElem_mem _,rfl⟩)) w0 m1 h1 s1
   obtain⟨_,aoJ,hck⟩:=World.cells?_some hcs
   refine⟨m2,h2,avs++avk,xs++[x],F++Fk,e1.trans e2,BM.le_trans l1 l2,s2,(r1.ext e2).snoc rx,by simp[hx],?_,?_⟩
   ·intro j av hj
    have hl:=r1.length
    rw[hx] at hl
    by_cases hlt:j < avs.length
    ·rw[List.getElem?_append_left hlt] at hj
     obtain⟨v,g1,g2,g3⟩:=hc j av hj
     exact⟨v,g1,aG.mono l2 _ _ g2,g3⟩
    ·rw[List.getElem?_append_right (by omega)] at hj
     obtain⟨v,g1,g2⟩:=vr.get _ _ hj
     have hjw:j - avs.length < P.cellsOf e:=by
      have:=(List.getElem?_eq_some_iff.1 g1).1;omega
     have:=hck (j - avs.length) hjw
     rw[g1,X8 ha,X8 rfl] at this
     refine⟨v,?_,g2,h1c v (List.mem_of_getElem? g1)⟩
     rw[←this]
     have:a.off+j=a.off+k * P.cellsOf e+(j - avs.length):=by rw[hw];omega
     rw[this]
   ·intro y hy
    rcases List.mem_append.1 hy with hy|hy
    ·exact hok y hy
    ·simp at hy;subst hy;exact okx
theorem nC {α:Type} [Cel α] {t e:TypeId} {fuel:Nat} (ht:P.underlying t=some (.slice e)) (hw:P.cellsOf e=Cel.w α) (hb:1≤P.bytesOf e) (ho:∀ n,n < fuel→dY α P e n):dY (List α) P t fuel:=by
 intro H enc W held cs d ps hd hwt w0 m h s
 have hpos:=Cel.pos (α:=α)
 rcases DataW.trod_slice ht hd with⟨rfl,hx⟩|⟨a,len,cap,elems,rest,n,rfl,rfl,hx,_,hlc,_,hlen,hel,hrest,_⟩
 ·exact⟨m,h,[.aC],[],[],Ext.refl _,m.le_refl,s,AY (by simp only[aG]),by simp[Value.oneCell'],⟨.aC,rfl,au.aC⟩,by simp[Cel.ok]⟩
 ·cases hx
  obtain⟨hr1,hr2⟩:=hrest rfl
  have hspot:0 < cap→a.spot=none:=by
   intro hcap
   have:∃ ck,W.cells? 0 a (P.cellsOf e)=some ck:=by
    by_cases h0:0 < len
    ·have:=hel 0 h0
     rw[List.getElem?_eq_getElem (by omega)] at this
     simp only[Nat.zero_mul,Addr.add,if_true] at this
     cases hc:W.cells? 0 a (P.cellsOf e) with
     |none=>rw[hc] at this;simp at this
     |some ck=>exact⟨ck,rfl⟩
    ·have:=hr2 0 (by omega)
     rw[List.getElem?_eq_getElem (by omega)] at this
     have e0:len+0=0:=by omega
     simp only[e0,Nat.zero_mul,Addr.add,if_true] at this
     cases hc:W.cells? 0 a (P.cellsOf e) with
     |none=>rw[hc] at this;simp at this
     |some ck=>exact⟨ck,rfl⟩
   obtain⟨ck,hck⟩:=this
   obtain⟨_,hl,hc⟩:=World.cells?_some hck
   have:=hc 0 (by omega)
   rw[List.getElem?_eq_getElem (by omega)] at this
   simp only[Addr.add,if_true] at this
   exact ajP this
  have Zm:=hwt
  simp only[DataW.weights,ht,List.mem_cons,List.mem_append,forall_eq_or_imp] at Zm
  obtain⟨hw1,hw2⟩:=Zm
  simp only[List.length_map] at hw1
  have hsmall:len < 281474976710656:=by
   have:elems.length+rest.length≤(elems.length+rest.length) * P.bytesOf e:=Nat.le_mul_of_pos_right _ hb
   have hrb:reachBytes=140737488351232:=rfl
   omega
  have key:∃ (m':BM) (h':AH) (avs:List AV) (xs:List α) (F:List Nat),Ext h h'∧m.le m'∧Sim W.heap.size w0 m' h' W∧bT h' xs avs F∧xs.length=len∧Cells m' W a avs∧∀ x∈xs,Cel.ok x:=by
   by_cases h0:0 < cap
   ·exact aiT hw (ho n (by omega)) (hspot h0) hlen hel (fun d hd n hn=>Sc (fun n hn=>hw2 n (.inl hn)) d hd n hn) s len (Nat.le_refl _)
   ·have:len=0:=by omega
    subst this
    exact⟨m,h,[],[],[],Ext.refl _,m.le_refl,s,⟨rfl,rfl⟩,rfl,fun j av hj=>by simp at hj,by simp⟩
  obtain⟨m1,h1,avs,xs,F,e1,l1,s1,r1,hx,hc,hok⟩:=key
  have hal:=r1.length
  obtain⟨l2,e2,s2⟩:=s1.am5 ⟨avs,Cel.w α,1⟩ rfl ⟨a.block,a.off,cap * Cel.w α,Cel.w α⟩ (by
   cases avs with
   |nil=>exact .inr rfl
   |cons av avs=>
    obtain⟨v,g1,_⟩:=hc 0 av rfl
    left
    unfold World.cell? at g1
    split at g1
    ·rename_i hh;exact(Array.getElem?_eq_some_iff.1 hh).1
    ·cases g1) ⟨rfl,fun i v hv=>by
    obtain⟨v',g1,g2,g3⟩:=hc i v hv
    exact⟨v',g1,aG.mono (Hz _ (by
     cases hm:m1 h1.n with
     |none=>rfl
     |some q=>have:=s1.dom _ _ hm;omega)) _ _ g2,g3⟩⟩
  refine⟨_,_,[.sl h1.n 0 len],xs,h1.n::F,e1.trans e2,BM.le_trans l1 l2,s2,AY ?_,by simp[Value.oneCell'],⟨_,rfl,.inr ⟨h1.n,0,F,avs,by rw[hx],rfl,by simp,by simp[live],by simp,?_,by omega,?_,r1.ext e2⟩⟩,hok⟩
  ·simp only[aG]
   refine⟨⟨a.block,a.off,cap * Cel.w α,Cel.w α⟩,a,cap,by simp[BM.add],rfl,hlc,by simp,?_⟩
   by_cases h0:cap=0
   ·exact .inl h0
   ·right
    have:=hspot (by omega)
    cases a;simp_all
  ·simp[hal]
  ·simp[←hal]
end Go.Ab
end
section
namespace Go.Ab
open Go.RowKit Go.ChangeShapes Go.WideShapes
variable{w0 W:World} {B:Nat} {m:BM} {h:AH} {P:Program}
theorem xP {t:TypeId} {fuel:Nat} (ht:P.underlying t=some .bool):dY Bool P t fuel:=by
 intro H enc W held cs d ps hd _ w0 m h s
 obtain⟨n,rfl,_⟩:=DataW.trod_bool ht hd
 exact⟨m,h,[.bool n],n,[],Ext.refl _,m.le_refl,s,AY (by simp only[aG]),by simp[Value.oneCell'],⟨rfl,rfl⟩,trivial⟩
theorem Ga {t:TypeId} {fuel:Nat} (ht:P.underlying t=some .string):dY ByteArray P t fuel:=by
 intro H enc W held cs d ps hd _ w0 m h s
 obtain⟨n,rfl,_,hn⟩:=DataW.trod_string ht hd
 exact⟨m,h,[.str n],n,[],Ext.refl _,m.le_refl,s,AY (by simp only[aG]),by simp[Value.oneCell'],⟨rfl,rfl⟩,hn⟩
def Ie (P:Program) (R:AH→List AV→List Nat→Prop) (fs:List Field) (o N n:Nat):Prop:=
 ∀ (H:Type) (enc:TypeId × Value→H) (W:World) (held:Bool) (cs:List Value) (xs:List (DataW H × List MemPlace)),cs.length=N→xs.length=fs.length→
  (∀ (i:Nat) (f:Field),fs[i]? =some f→DataW.trod enc P W 0 (fun _=>true) held n f.type ((cs.drop f.offset).take (P.cellsOf f.type))=xs[i]?)→(∀ k∈DataW.weightsEach P (fs.map (·.type)) (xs.map (·.1)),k≤reachBytes)→
  ∀ (w0:World) (m:BM) (h:AH),Sim W.heap.size w0 m h W→∃ (m':BM) (h':AH) (avs:List AV) (F:List Nat),Ext h h'∧m.le m'∧Sim W.heap.size w0 m' h' W∧aI m' avs (cs.drop o)∧(∀ v∈cs.drop o,v.oneCell'=true)∧R h' avs F
theorem lD {N n:Nat}:Ie P (fun _ avs F=>avs=[]∧F=[]) [] N N n:=by
 intro H enc W held cs xs hcs _ _ _ w0 m h s
 have:cs.drop N=[]:=by rw[←hcs];simp
 rw[this]
 exact⟨m,h,[],[],Ext.refl _,m.le_refl,s,aI.nil,by simp,rfl,rfl⟩
theorem aZ {α:Type} [Cel α] {R:AH→List AV→List Nat→Prop} {f:Field} {fs:List Field} {o k N n:Nat} (hfo:f.offset=o) (hk:P.cellsOf f.type=k) (ho:dY α P f.type n) (hl:Ie P R fs (o+k) N n):
  Ie P (fun h avs F=>∃ (x:α) (c1 c2:List AV) (F1 F2:List Nat),avs=c1++c2∧F=F1++F2∧Cel.rep h x c1 F1∧Cel.ok x∧R h c2 F2) (f::fs) o N n:=by
 intro H enc W held cs xs hcs hxs htr hwt w0 m h s
 cases xs with
 |nil=>simp at hxs
 |cons x0 xs=>
  have h0:=htr 0 f rfl
  simp only[List.getElem?_cons_zero,hfo,hk] at h0
  simp only[List.map_cons,DataW.weightsEach,List.mem_append] at hwt
  obtain⟨m1,h1,a1,x,F1,e1,l1,s1,v1,c1,r1,k1⟩:=ho H enc W held _ x0.1 x0.2 h0 (fun k hk=>hwt k (.inl hk)) w0 m h s
  obtain⟨m2,h2,a2,F2,e2,l2,s2,v2,c2,r2⟩:=hl H enc W held cs xs hcs (by simpa using hxs) (fun i g hg=>by simpa using htr (i+1) g (by simpa using hg)) (fun k hk=>hwt k (.inr hk)) w0 m1 h1 s1
  have hsplit:cs.drop o=(cs.drop o).take k++cs.drop (o+k):=by
   rw[←List.drop_drop,List.take_append_drop]
  refine⟨m2,h2,a1++a2,F1++F2,e1.trans e2,BM.le_trans l1 l2,s2,?_,?_,x,a1,a2,F1,F2,rfl,rfl,iW r1 e2,k1,r2⟩
  ·rw[hsplit];exact(aI.mono l2 _ _ v1).append v2
  ·intro v hv
   rw[hsplit] at hv
   rcases List.mem_append.1 hv with hv|hv
   ·exact c1 v hv
   ·exact c2 v hv
theorem lq {α:Type} [Cel α] {t:TypeId} {fs:Array Field} {N fuel:Nat} {R:AH→List AV→List Nat→Prop} (ht:P.underlying t=some (.struct fs)) (hN:P.cellsOf t=N) (hl:∀ n,n < fuel→Ie P R fs.toList 0 N n)
  (hc:∀ h avs F,R h avs F→∃ x:α,Cel.rep h x avs F∧Cel.ok x):dY α P t fuel:=by
 intro H enc W held cs d ps hd hwt w0 m h s
 obtain⟨xs,n,rfl,hx,hcl,hxl,htr⟩:=DataW.trod_struct ht hd
 cases hx
 simp only[DataW.weights,ht] at hwt
 obtain⟨m',h',avs,F,e,l,s',v,c,r⟩:=hl n (Nat.lt_succ_self n) H enc W held cs xs (by rw[hcl,hN]) (by simpa using hxl) (fun i f hf=>htr i f (by simpa using hf)) hwt w0 m h s
 obtain⟨x,r1,r2⟩:=hc h' avs F r
 exact⟨m',h',avs,x,F,e,l,s',by simpa using v,by simpa using c,r1,r2⟩
def tV (P:Program) (ts:List TypeId) (R:AH→List AV→Prop):Prop:=
 ∀ (H:Type) (enc:TypeId × Value→H) (W:World) (base:Nat) (vs:List Value) (ds:List (DataW H)) (ps:List MemPlace),(∀ (j:Nat) t v,ts[j]? =some t→vs[j]? =some v→Value.okWide P W .any base t v)→
  DataW.TrodAll enc P W 0 (fun _=>true) true ts vs ds ps→(∀ k∈DataW.weightsEach P ts ds,k≤reachBytes)→
  ∀ (w0:World) (m:BM) (h:AH),Sim W.heap.size w0 m h W→∃ (m':BM) (h':AH) (avs:List AV),Ext h h'∧m.le m'∧Sim W.heap.size w0 m' h' W∧aI m' avs vs∧R h' avs
theorem ajj:tV P [] (fun _ avs=>avs=[]):=by
 intro H enc W base vs ds ps _ hA _ w0 m h s
 obtain⟨rfl,_,_⟩:=trodAll_nil hA
 exact⟨m,h,[],Ext.refl _,m.le_refl,s,aI.nil,rfl⟩
theorem UU {α:Type} [Cel α] {t:TypeId} {ts:List TypeId} {R R':AH→List AV→Prop} (ho:∀ n,dY α P t n) (hl:tV P ts R)
  (hv:∀ (W:World) (base:Nat) (v:Value) (m:BM) (h:AH) (cs:List AV) (x:α) (F:List Nat),Value.okWide P W .any base t v→aI m cs v.cells.toList→(∀ u∈v.cells.toList,u.oneCell'=true)→Cel.rep h x cs F→Cel.ok x→∃ av,aG m av v∧∀ rest,R h rest→R' h (av::rest)):tV P (t::ts) R':=by
 intro H enc W base vs ds ps hok hA hwt w0 m h s
 obtain⟨v,vs,d,ds,p,q,rfl,rfl,rfl,⟨fuel,hd⟩,hA'⟩:=trodAll_cons hA
 simp only[DataW.weightsEach,List.mem_append] at hwt
 obtain⟨m1,h1,cs,x,F,e1,l1,s1,v1,c1,r1,k1⟩:=ho fuel H enc W true _ d p hd (fun k hk=>hwt k (.inl hk)) w0 m h s
 obtain⟨m2,h2,avs,e2,l2,s2,v2,r2⟩:=hl H enc W base vs ds q (fun j t' v' hj hv'=>hok (j+1) t' v' (by simpa using hj) (by simpa using hv')) hA' (fun k hk=>hwt k (.inr hk)) w0 m1 h1 s1
 obtain⟨av,g1,g2⟩:=hv W base v m2 h2 cs x F (hok 0 t v rfl rfl) (aI.mono l2 _ _ v1) c1 (iW r1 e2) k1
 exact⟨m2,h2,av::avs,e1.trans e2,BM.le_trans l1 l2,s2,aI.cons g1 v2,g2 avs r2⟩
theorem one_cell {v:Value} {cs:List AV} (r:aI m cs v.cells.toList) (hv:v.cells= #[v]):∃ av,cs=[av]∧aG m av v:=by
 rw[hv] at r
 cases cs with
 |nil=>have:=r.length;simp at this
 |cons a cs=>
  obtain⟨u,us,e,h1,h2⟩:=r.cons_inv
  simp at e
  obtain⟨rfl,rfl⟩:=e
  have:=h2.length
  exact⟨a,by simp at this;simp[this],h1⟩
theorem ajk {t:TypeId} {ts:List TypeId} {R:AH→List AV→Prop} (ht:P.underlying t=some (.int .i64)) (hl:tV P ts R):tV P (t::ts) (fun h avs=>∃ n rest,avs= .int .i64 n::rest∧rng n∧R h rest):=
 UU (α:=Int) (fun n=>cB ht) hl fun W base v m h cs x F hok vr _ rx kx=>by
  obtain⟨n,rfl⟩:=okWide_int ht hok
  obtain⟨av,rfl,h1⟩:=one_cell vr rfl
  obtain⟨e,_⟩:=rx
  cases e
  exact⟨_,h1,fun rest hr=>⟨x,rest,rfl,kx,hr⟩⟩
theorem agV {α:Type} [Cel α] {t:TypeId} {fs:Array Field} {ts:List TypeId} {R:AH→List AV→Prop} (ht:P.underlying t=some (.struct fs)) (ho:∀ n,dY α P t n) (hl:tV P ts R):tV P (t::ts) (fun h avs=>∃ cs x F rest,avs= .agg cs::rest∧Cel.rep (α:=α) h x cs F∧Cel.ok x∧R h rest):=
 UU (α:=α) ho hl fun W base v m h cs x F hok vr hc rx kx=>by
  simp only[Value.okWide,ht] at hok
  obtain⟨l,rfl,_,_⟩:=hok
  exact⟨.agg cs,by simp only[aG];exact⟨l.toList,vr,hc,by simp⟩,fun rest hr=>⟨cs,x,F,rest,rfl,rx,kx,hr⟩⟩
def h00:AH:=⟨0,fun _=>⟨[],0,2⟩⟩
theorem amu (W:World):Sim W.heap.size W (fun _=>none) h00 W:=by
 refine⟨Below.refl _ _,Nat.le_refl _,?_,?_,?_,?_,?_,fun b=>.inr (.inr rfl),fun b _=>rfl⟩
 ·intro b p hp;cases hp
 ·intro b p hp;cases hp
 ·intro b p hp;cases hp
 ·intro b p hp;cases hp
 ·intro b b' p p' _ hp;cases hp
theorem ajY {f:FuncId} {ts:List TypeId} {R:AH→List AV→Prop} (ho:tV P ts R) (hc:∀ h avs,R h avs→aM P f avs h (.bool true)) {H:Type} {enc:TypeId × Value→H} {W:World} {base:Nat} {args:Array Value} {ds:List (DataW H)} {ps:List MemPlace}
  (hok:∀ (j:Nat) t v,ts[j]? =some t→args.toList[j]? =some v→Value.okWide P W .any base t v) (hA:DataW.TrodAll enc P W 0 (fun _=>true) true ts args.toList ds ps) (hwt:∀ k∈DataW.weightsEach P ts ds,k≤reachBytes):
  Calls P f args W fun e W'=>e= .returned (.bool true)∧Below W.heap.size W W':=by
 obtain⟨m',h',avs,_,_,s,v,r⟩:=ho H enc W base args.toList ds ps hok hA hwt W _ _ (amu W)
 have:=(hc h' avs r).2 W.heap.size W m' W args.toList s v
 rw[Array.toArray_toList] at this
 refine this.mono fun e W' ⟨u,a,m2,h2,e1,_,s2,v2,e2,_⟩=>?_
 subst e2
 simp only[aG] at v2
 subst v2
 exact⟨e1,s2.below⟩
theorem Si {H:Type} {enc:TypeId × Value→H} (hl:laidOutB P=true) {W W':World} (hb:Below W.heap.size W W'):∀ {ts:List TypeId} {vs:List Value} {ds:List (DataW H)} {ps:List MemPlace},
  (ts.all fun t=>P.readableRec t && decide (t < P.types.size))=true→DataW.TrodAll enc P W 0 (fun _=>true) true ts vs ds ps→(∀ x∈ps,x.block < W.heap.size)→DataW.TrodAll enc P W' 0 (fun b=>decide (b < W.heap.size)) true ts vs ds ps
 |[],vs,ds,ps,_,h,_=>by
  obtain⟨rfl,rfl,rfl⟩:=trodAll_nil h
  exact trodAll_mk0
 |t::ts,vs,ds,ps,hr,h,hlt=>by
  obtain⟨v,vs,d,ds,p,q,rfl,rfl,rfl,h1,h2⟩:=trodAll_cons h
  simp only[List.all_cons,Bool.and_eq_true,decide_eq_true_eq] at hr
  exact⟨p,q,Below.trod hl hr.1.1 hr.1.2 h1 hb fun x hx=>hlt x (List.mem_append_left _ hx),Si hl hb hr.2 h2 fun x hx=>hlt x (List.mem_append_right _ hx),rfl⟩
end Go.Ab
end
section
namespace Go.Ab
theorem ajm {h:AH} {a b:Int} {c:Bool} (ka:Cel.ok a) (kb:Cel.ok b) (kc:Cel.ok c):∃ x:bJ,Cel.rep h x ([.int .i64 a]++([.int .i64 b]++([.bool c]++[]))) ([]++([]++([]++[])))∧Cel.ok x:=
 ⟨⟨a,b,c⟩,⟨rfl,rfl⟩,ka,kb⟩
end Go.Ab
end
section
namespace Go.Ab
open Go.RowKit
def oz (α:Type) [Cel α] (h:AH) (xs:List α):AV→AH→Prop:=fun v h'=>Ext h h'∧∃ F,au h' v xs F∧Own h.n h' F
def Kp (h h':AH) (X:List Nat):Prop:=h.n≤h'.n∧∀ b,b < h.n→b ∉ X→h'.get b=h.get b
theorem Kp.refl (h:AH) (X:List Nat):Kp h h X:=⟨Nat.le_refl _,fun _ _ _=>rfl⟩
theorem Kp.iA {h h':AH} {X:List Nat} (e:Ext h h'):Kp h h' X:=⟨e.1,fun b hb _=>e.2 b hb⟩
theorem Kp.ext {h0 h h':AH} {X:List Nat} (e:Ext h0 h) (k:Kp h h' X) (hX:∀ b∈X,h0.n≤b):Ext h0 h':=
 ⟨Nat.le_trans e.1 k.1,fun b hb=>by
  rw[k.2 b (Nat.lt_of_lt_of_le hb e.1) fun hm=>by have:=hX b hm;omega]
  exact e.2 b hb⟩
theorem Kp.trans {a b c:AH} {X:List Nat} (k:Kp a b X) (k':Kp b c X):Kp a c X:=
 ⟨Nat.le_trans k.1 k'.1,fun i hi hX=>(k'.2 i (Nat.lt_of_lt_of_le hi k.1) hX).trans (k.2 i hi hX)⟩
theorem Kp.AZ {a b c:AH} {X:List Nat} (k:Kp a b X) (e:Ext b c):Kp a c X:=k.trans (Kp.iA e)
section
variable{α:Type} [Cel α] {P:Program} {h h':AH} {Q:Nat→List AV→AH→Prop} {k:AV→Prog}
theorem au.kp {v:AV} {xs:List α} {F X:List Nat} (r:au h v xs F) (kp:Kp h h' X) (hd:∀ b∈F,b ∉ X):au h' v xs F:=
 r.keep fun b hb=>⟨kp.2 b (r.lt b hb) (hd b hb),Nat.lt_of_lt_of_le (r.lt b hb) kp.1⟩
theorem yh {es n:Nat} {zero cs:List AV} {parts:List (Nat × Nat × AV)} (hc:cZ zero parts=some cs) (h1:n * es≤16777216) (h2:cs.length=n * es) (hk:(k (.sl h.n 0 n)).awp P (h.push ⟨cs,es,0⟩) Q):(Prog.op (.aU es n zero parts) k).awp P h Q:=by
 simp only[Prog.awp,AOp.go,hc];exact⟨h1,h2,hk⟩
theorem Own.ext {n:Nat} {F:List Nat} (o:Own n h F) (e:Ext h h') (hlt:∀ b∈F,b < h.n):Own n h' F:=o.mono (Nat.le_refl _) fun b hb=>e.2 b (hlt b hb)
theorem qo {x:α} {cs:List AV} {F:List Nat} (r:Cel.rep h x cs F):bT h [x] cs F:=⟨cs,[],F,[],by simp,by simp,r,rfl,rfl⟩
theorem lC {xs:List α} {cs:List AV} {F:List Nat} {n:Nat} (hn:xs.length=n) (hs:n < 281474976710656) (r:bT h xs cs F):au (h.push ⟨cs,Cel.w α,0⟩) (.sl h.n 0 n) xs (h.n::F):=by
 have hl:=r.length
 refine .inr ⟨h.n,0,F,cs,by rw[hn],rfl,by simp,by simp[live],by simp,by simp[hl],by omega,by simp[←hl],r.ext ((Ext.refl h).push _)⟩
theorem mM {n:Nat} {F:List Nat} {kk:Blk} (hn:n≤h.n) (hk:kk.st=0) (hF:∀ b∈F,b < h.n) (o:Own n h F):Own n (h.push kk) (h.n::F):=by
 refine⟨List.nodup_cons.2 ⟨fun hm=>by have:=hF _ hm;omega,o.1⟩,?_⟩
 intro b hb
 rcases List.mem_cons.1 hb with rfl|hb
 ·exact⟨hn,by simp[hk]⟩
 ·have:=hF b hb
  have e:b≠h.n:=by omega
  exact⟨(o.2 b hb).1,by simp[e,(o.2 b hb).2]⟩
theorem au.cells {v:AV} {xs:List α} {F:List Nat} (r:au h v xs F):∃ cs,mP h (Cel.w α) v=some cs∧mg v=some xs.length∧Ce h v∧bT h xs cs F.tail:=by
 rcases r with⟨rfl,h1,rfl⟩|⟨b,off,F',cs,rfl,rfl,h1,h2,h3,h4,h5,h6,h7⟩
 ·have:xs=[]:=List.length_eq_zero_iff.1 h1
  subst this
  exact⟨[],rfl,rfl,trivial,rfl,rfl⟩
 ·exact⟨cs,by simp only[mP,h4,if_true,h6],rfl,.inr h2,h7⟩
theorem bT.append:∀ {xs ys:List α} {cs ds:List AV} {F G:List Nat} (_:bT h xs cs F) (_:bT h ys ds G),bT h (xs++ys) (cs++ds) (F++G)
 |[],ys,cs,ds,F,G,r,r'=>by obtain⟨rfl,rfl⟩:=r;simpa using r'
 |x::xs,ys,cs,ds,F,G,r,r'=>by
  obtain⟨c1,c2,F1,F2,rfl,rfl,r1,r2⟩:=r
  exact⟨c1,c2++ds,F1,F2++G,by simp,by simp,r1,r2.append r'⟩
theorem vW {n es bytes:Nat} {x y:AV} {xs ys:List α} {Fx Fy:List Nat} (rx:au h x xs Fx) (ry:au h y ys Fy) (o:Own n h (Fx++Fy.tail)) (hn:n≤h.n) (hw:es=Cel.w α)
  (hb:(xs.length+ys.length) * bytes≤70368744177664) (hs:xs.length+ys.length < 281474976710656)
  (hk:∀ v h' F',Kp h h' Fx→au h' v (xs++ys) F'→Own n h' F'→(∀ c∈F',c∈Fx∨c∈Fy.tail∨h.n≤c)→(k v).awp P h' Q):(Prog.op (.app es bytes x y) k).awp P h Q:=by
 subst hw
 obtain⟨new,hc,hl,hlv,rys⟩:=ry.cells
 have hpos:=Cel.pos (α:=α)
 rcases rx with⟨rfl,h1,rfl⟩|⟨b,off,F',cs,rfl,rfl,h1,h2,h3,h4,h5,h6,h7⟩
 ·have hx:xs=[]:=List.length_eq_zero_iff.1 h1
  subst hx
  simp only[List.nil_append,List.length_nil,Nat.zero_add] at o hb hs hk
  simp only[Prog.awp,AOp.go,hc,hl]
  refine⟨hlv,hb,?_⟩
  split
  ·rename_i h0
   have:ys=[]:=List.length_eq_zero_iff.1 h0
   subst this
   exact hk .aC h [] (Kp.refl _ _) au.aC Own.nil (by simp)
  ·exact hk _ _ _ (Kp.iA ((Ext.refl h).push _)) (lC rfl hs rys) (mM hn rfl (rys.lt) o) (by simp;exact fun c hc=>.inl hc)
 ·have hnd:=o.1
  have Io:mine h b:=(o.2 b (by simp)).2
  have hbF:b ∉ F'∧b ∉ Fy.tail:=by
   have:=(List.nodup_cons.1 (show(b::(F'++Fy.tail)).Nodup from hnd)).1
   simpa[not_or] using this
  have hcl:=h7.length
  have hnl:=rys.length
  simp only[Prog.awp,AOp.go,hc,hl]
  refine⟨Io,hlv,by omega,h3,?_⟩
  have hmul:(xs.length+ys.length) * Cel.w α=xs.length * Cel.w α+ys.length * Cel.w α:=Nat.add_mul _ _ _
  split
  ·rename_i hfit
   have hkeep:∀ c,c≠b→c < h.n→(h.upd b {h.get b with cells:=splice (h.get b).cells (off+xs.length * Cel.w α) new}).get c=h.get c∧c < (h.upd b {h.get b with cells:=splice (h.get b).cells (off+xs.length * Cel.w α) new}).n:=
    fun c hc hlt=>⟨by simp[hc],hlt⟩
   have hlt1:=h7.lt
   have hlt2:=rys.lt
   refine hk _ _ (b::(F'++Fy.tail)) ⟨Nat.le_refl _,fun c hc hX=>(hkeep c (fun e=>hX (by simp[e])) hc).1⟩ (.inr ⟨b,off,F'++Fy.tail,cs++new,by simp,rfl,h1,?_,?_,?_,by simp;omega,?_,?_⟩) ?_ (by intro c hc;simp at hc ⊢;rcases hc with hc|hc|hc<;>simp[hc])
   ·unfold live;simp;unfold mine at Io;omega
   ·simp[h3]
   ·simp only[gY,if_true,splice,List.length_append,List.length_take,List.length_drop,hnl];omega
   ·have hA:((h.get b).cells.take (off+xs.length * Cel.w α))=(h.get b).cells.take off++cs:=by rw[h6,List.take_add]
    have hAl:((h.get b).cells.take off).length=off:=by simp;omega
    simp only[gY,if_true,splice,hA,List.append_assoc]
    rw[List.drop_append_of_le_length (by omega),List.drop_of_length_le (by omega),List.nil_append,←List.append_assoc,List.take_append_of_le_length (by simp;omega)]
    rw[List.take_of_length_le (by simp;omega)]
   ·exact(h7.keep fun c hc=>hkeep c (fun e=>hbF.1 (e▸hc)) (hlt1 c hc)).append (rys.keep fun c hc=>hkeep c (fun e=>hbF.2 (e▸hc)) (hlt2 c hc))
   ·refine⟨hnd,fun c hc=>?_⟩
    have:=o.2 c hc
    refine⟨this.1,?_⟩
    by_cases e:c=b
    ·subst e;simpa using this.2
    ·simp[e,this.2]
  ·refine⟨hb,by omega,?_⟩
   have hcs:((h.get b).cells.drop off).take (xs.length * Cel.w α)=cs:=h6.symm
   rw[hcs]
   have e:∀ c,c≠b→c < h.n→(h.kill b).get c=h.get c∧c < (h.kill b).n:=fun c hc hlt=>⟨by simp[AH.kill,hc],hlt⟩
   have r2:bT (h.kill b) (xs++ys) (cs++new) (F'++Fy.tail):=
    (h7.keep fun c hc=>e c (fun e=>hbF.1 (e▸hc)) (h7.lt c hc)).append (rys.keep fun c hc=>e c (fun e=>hbF.2 (e▸hc)) (rys.lt c hc))
   have hkn:(h.kill b).n=h.n:=rfl
   have key:=lC (n:=xs.length+ys.length) (by simp) hs r2
   rw[hkn] at key
   refine hk _ _ _ ⟨by simp[hkn],fun c hc hX=>?_⟩ key ?_ (by intro c hc;simp at hc ⊢;rcases hc with hc|hc|hc<;>simp[hc])
   ·have h1:c≠b:=fun e=>hX (by simp[e])
    have h2:c≠h.n:=by omega
    simp[AH.kill,h1,h2,hkn]
   ·have o2:Own n (h.kill b) (F'++Fy.tail):=by
     refine⟨(List.nodup_cons.1 (show(b::(F'++Fy.tail)).Nodup from hnd)).2,fun c hc=>?_⟩
     have:=o.2 c (by simp at hc ⊢;exact .inr hc)
     have hne:c≠b:=fun e=>by
      subst e;simp at hc;rcases hc with hc|hc
      ·exact hbF.1 hc
      ·exact hbF.2 hc
     exact⟨this.1,by simp[AH.kill,hne,this.2]⟩
    exact mM (by rw[hkn];exact hn) rfl r2.lt o2
theorem nP {n es bytes:Nat} {x y:AV} {xs ys:List α} {Fx Fy:List Nat} (rx:au h x xs Fx) (ry:au h y ys Fy) (o:Own n h (Fx++Fy.tail)) (hn:n≤h.n) (hw:es=Cel.w α)
  (hb:(xs.length+ys.length) * bytes≤70368744177664) (hs:xs.length+ys.length < 281474976710656)
  (hk:∀ v h' F',Kp h h' Fx→au h' v (xs++ys) F'→Own n h' F'→(k v).awp P h' Q):(Prog.op (.app es bytes x y) k).awp P h Q:=vW rx ry o hn hw hb hs fun v h' F' a b c _=>hk v h' F' a b c
end
end Go.Ab
end
section
namespace Go.Ab
open Go.RowKit
class Flat (α:Type) extends Cel α where
 enc:α→List AV
 dw:∀ {h x cs F},rep h x cs F↔cs=enc x∧F=[]
section
variable{α:Type} [Flat α] {P:Program} {h h':AH} {Q:Nat→List AV→AH→Prop} {k:AV→Prog}
theorem kM (x:α):(Flat.enc x).length=Cel.w α:=by
 have:Cel.rep h00 x (Flat.enc x) []:=Flat.dw.2 ⟨rfl,rfl⟩
 exact Cel.len this
theorem Ba:∀ {xs:List α} {cs:List AV} {F:List Nat},bT h xs cs F↔cs=xs.flatMap Flat.enc∧F=[]
 |[],cs,F=>by simp[bT]
 |x::xs,cs,F=>by
  simp only[bT,List.flatMap_cons]
  constructor
  ·rintro⟨c1,c2,F1,F2,rfl,rfl,r1,r2⟩
   obtain⟨rfl,rfl⟩:=Flat.dw.1 r1
   obtain⟨rfl,rfl⟩:=Ba.1 r2
   exact⟨rfl,rfl⟩
  ·rintro⟨rfl,rfl⟩
   exact⟨Flat.enc x,_,[],[],rfl,rfl,Flat.dw.2 ⟨rfl,rfl⟩,Ba.2 ⟨rfl,rfl⟩⟩
theorem Gc (xs:List α):(xs.flatMap Flat.enc).length=xs.length * Cel.w α:=by
 have:=(Ba (h:=h00) (xs:=xs)).2 ⟨rfl,rfl⟩
 exact this.length
theorem au.flat {v:AV} {xs:List α} {F:List Nat} (r:au h v xs F):(v= .aC∧xs=[]∧F=[])∨
  ∃ b pre post,v= .sl b pre.length xs.length∧F=[b]∧b < h.n∧live h b∧(h.get b).es=Cel.w α∧xs.length < 281474976710656∧(h.get b).cells=pre++(xs.flatMap Flat.enc++post):=by
 rcases r with⟨rfl,h1,rfl⟩|⟨b,off,F',cs,rfl,rfl,h1,h2,h3,h4,h5,h6,h7⟩
 ·exact .inl ⟨rfl,List.length_eq_zero_iff.1 h1,rfl⟩
 ·obtain⟨e,rfl⟩:=Ba.1 h7
  right
  refine⟨b,(h.get b).cells.take off,(h.get b).cells.drop (off+xs.length * Cel.w α),?_,rfl,h1,h2,h3,h5,?_⟩
  ·simp;omega
  ·rw[←e,h6,←List.append_assoc,←List.take_add,List.take_append_drop]
theorem Vd {b:Nat} {pre post:List AV} {xs:List α} (h1:b < h.n) (h2:live h b) (h3:(h.get b).es=Cel.w α) (h5:xs.length < 281474976710656) (hc:(h.get b).cells=pre++(xs.flatMap Flat.enc++post)):
  au h (.sl b pre.length xs.length) xs [b]:=by
 have hl:=Gc xs
 refine .inr ⟨b,pre.length,[],xs.flatMap Flat.enc,rfl,rfl,h1,h2,h3,?_,h5,?_,Ba.2 ⟨rfl,rfl⟩⟩
 ·rw[hc];simp only[List.length_append,hl];omega
 ·rw[hc,List.drop_left,List.take_append_of_le_length (by omega),List.take_of_length_le (by omega)]
theorem akQ {b:Nat} {k1 k2:Blk}:(h.upd b k1).upd b k2=h.upd b k2:=by
 unfold AH.upd
 simp only[AH.mk.injEq,true_and]
 funext i
 by_cases e:i=b<;>simp[e]
theorem fO {b:Nat} {kk:Blk}:Kp h (h.upd b kk) [b]:=⟨Nat.le_refl _,fun c _ hX=>by
 have:c≠b:=fun e=>hX (by simp[e])
 simp[this]⟩
theorem Xb {b off n es i:Nat} {q:IntKind} (hi:i < n) (hk:(k (.ptr b (off+i * es))).awp P h Q):(Prog.op (.idx es (.sl b off n) (.int q i)) k).awp P h Q:=mK hi hk
theorem Ls {b off n:Nat} (hk:(k (.int .i64 n)).awp P h Q):(Prog.op (.len 0 (.sl b off n)) k).awp P h Q:=hk
end
class Mk (α:Type) where
 put:Int→α→α × Int
def mks {α:Type} [Mk α]:Int→List α→List α × Int
 |m,[]=>([],m)
 |m,x::xs=>((Mk.put m x).1::(mks (Mk.put m x).2 xs).1,(mks (Mk.put m x).2 xs).2)
end Go.Ab
end
section
namespace Go.Ab
open Go.RowKit
section
variable{α:Type} [Flat α] {P:Program} {h h':AH} {Q:Nat→List AV→AH→Prop} {k:AV→Prog}
theorem vD {b off len es i:Nat} (he:es≠0) (h1:(h.get b).es=es) (h2:mine h b) (h3:off+len * es≤(h.get b).cells.length) (hi:i≤len) (hk:(k (.sl b (off+i * es) (len - i))).awp P h Q):
  (Prog.op (.slc es (.sl b off len) (some (.int .i64 (i:Int))) none none) k).awp P h Q:=by
 simp only[Prog.awp,AOp.go,bnd,lI]
 refine⟨he,h1,h2,h3,Int.natCast_nonneg _,by omega,by simpa using h3,?_⟩
 have:((len:Int) - (i:Int)).toNat=len - i:=by omega
 simpa[this] using hk
theorem LU {b off len es i:Nat} (he:es≠0) (h1:(h.get b).es=es) (h2:mine h b) (h3:off+len * es≤(h.get b).cells.length) (hi:i≤len) (hk:(k (.sl b off i)).awp P h Q):
  (Prog.op (.slc es (.sl b off len) none (some (.int .i64 (i:Int))) none) k).awp P h Q:=by
 simp only[Prog.awp,AOp.go,bnd,lI]
 have hle:i * es≤len * es:=Nat.mul_le_mul_right _ hi
 refine⟨he,h1,h2,h3,Int.le_refl _,Int.natCast_nonneg _,by simp;omega,?_⟩
 simpa using hk
theorem YB {b off len es:Nat} {zero:List AV} (h2:mine h b) (hz:zero.length=es) (h3:off+len * es≤(h.get b).cells.length) (hk:(k (.tup [])).awp P (h.upd b {h.get b with cells:=splice (h.get b).cells off (List.replicate len zero).flatten}) Q):
  (Prog.op (.clr es zero (.sl b off len)) k).awp P h Q:=by
 simp only[Prog.awp,AOp.go]
 exact⟨h2,hz,h3,hk⟩
theorem Bp {b off n es:Nat} {i:Int} {q:IntKind} (h0:0≤i) (hi:i < n) (hk:(k (.ptr b (off+i.toNat * es))).awp P h Q):(Prog.op (.idx es (.sl b off n) (.int q i)) k).awp P h Q:=by
 simp only[Prog.awp,AOp.go];exact⟨h0,hi,hk⟩
def YP (w:Nat) (zero:List AV) (ci:Nat) (x0 x1:AV):Prog:=.op (.call ci [x0,x1]) fun v=>.op (.bin 0 .eql v (AV.int .i64 (-1))) fun v_1=>.ite v_1 (.fin [.val x0]) (.op (.bin 0 .add v (AV.int .i64 1)) fun v_2=>.loop [v,v_2] (fun vs=>.op (.len 0 x0) fun v=>.op (.bin 0 .lss (g vs 1) v) fun v=>.ite v (.op (.idx w x0 (g vs 1)) fun v=>.op (.ldn w v) fun v=>.op (.alloc zero) fun v_3=>.op (.st w v_3 v) fun v=>.op (.ldn w v_3) fun v=>.op (.iC x1 [v]) fun v=>.op (.una .not v) fun v=>.scope (.ite v (.op (.ldn w v_3) fun v=>.op (.idx w x0 (g vs 0)) fun v_4=>.op (.st w v_4 v) fun v=>.op (.bin 0 .add (g vs 0) (AV.int .i64 1)) fun v=>.leaf 0 [v]) (.leaf 0 [g vs 0])) (fun am9=>.op (.bin 0 .add (g vs 1) (AV.int .i64 1)) fun v=>.leaf 0 [g am9 0,v]) fun t vs=>aB t 1 (.leaf 1 vs) .bad) (.leaf 2 [g vs 0,g vs 1])) fun t vs=>aB t 1 (.leaf 1 vs) (aB t 2 (.op (.slc w x0 (some (g vs 0)) none none) fun v=>.op (.clr w zero v) fun v=>.op (.slc w x0 none (some (g vs 0)) none) fun v=>.fin [.val v]) .bad))
theorem xY {α:Type} (p:α→Bool) (xs:List α):(idx p xs= -1∧xs.filter (fun x=>!p x)=xs)∨∃ (i:Nat) (x:α),idx p xs=i∧xs[i]? =some x∧p x=true∧(xs.take i).filter (fun x=>!p x)=xs.take i:=by
 unfold idx
 by_cases hi:xs.findIdx p < xs.length
 ·right
  refine⟨xs.findIdx p,xs[xs.findIdx p],by rw[if_pos hi],List.getElem?_eq_getElem hi,List.findIdx_getElem,?_⟩
  rw[List.filter_eq_self]
  intro a ha
  obtain⟨j,hj,rfl⟩:=List.getElem_of_mem ha
  simp only[List.length_take] at hj
  rw[List.getElem_take]
  simpa using List.not_of_lt_findIdx (show j < xs.findIdx p by omega)
 ·left
  refine⟨by rw[if_neg hi],?_⟩
  rw[List.filter_eq_self]
  have:xs.findIdx p=xs.length:=by have:=List.findIdx_le_length (xs:=xs) (p:=p);omega
  rw[List.findIdx_eq_length] at this
  intro x hx;simp[this x hx]
theorem alG {b es:Nat} {A C R:List AV} {n:Nat} (hb:b < h.n) (hg:h.get b=⟨A++(C++R),es,0⟩) (hn:n=A.length):At h b n C:=by
 subst hn
 refine⟨hb,by simp[live,hg],?_⟩
 rw[hg]
 simp
theorem V6 {w ci n:Nat} {zero:List AV} (hw:w=Cel.w α) (hz:zero.length=w) {xs:List α} {v:AV} {F:List Nat} {f:FuncId} {caps:List AV} {p:α→Bool} (r:au h v xs F) (o:Own n h F)
  (hi:aM P ci [v,.fn f caps] h (.int .i64 (idx p xs))) (hf:∀ h',Kp h h' F→Looks α P h' f caps p):
  (YP w zero ci v (.fn f caps)).awp P h fun t vs h'=>t=1∧∃ u,vs=[u]∧Kp h h' F∧au h' u (xs.filter fun x=>!p x) F∧Own n h' F:=by
 subst hw
 have hpos:=Cel.pos (α:=α)
 unfold YP
 refine aJ hi ?_
 rcases xY p xs with⟨e1,e2⟩|⟨i0,x0,e1,e2,e3,e4⟩
 ·rw[e1]
  exact Ia (fun _=>dM (eY ⟨rfl,v,rfl,Kp.refl _ _,by rw[e2];exact r,o⟩)) (fun hne=>absurd rfl hne)
 ·rw[e1]
  have hsm:=r.small
  have hi0:i0 < xs.length:=(List.getElem?_eq_some_iff.1 e2).1
  refine Ia (fun h=>by omega) (fun _=>dP ?_)
  refine jc (j:=i0) (by omega) ?_
  rcases r.flat with⟨_,rfl,_⟩|⟨b,pre,post,rfl,rfl,hb,hl,hes,hs,hc⟩
  ·simp at e2
  have Io:(h.get b).st=0:=(o.2 b (by simp)).2
  refine GY (fun k vs h1=>∃ (i j:Nat) (junk:List AV),vs=[.int .i64 (i:Int),.int .i64 (j:Int)]∧k=xs.length - j∧i < j∧j≤xs.length∧Kp h h1 [b]∧((xs.take j).filter fun x=>!p x).length=i∧junk.length=(j - i) * Cel.w α∧
   h1.get b=⟨(pre++((xs.take j).filter fun x=>!p x).flatMap Flat.enc)++(junk++((xs.drop j).flatMap Flat.enc++post)),Cel.w α,0⟩) (xs.length - (i0+1)) ?_ ?_
  ·obtain⟨y,hy,hd,ht⟩:=aP hi0
   rw[e2] at hy;cases hy
   refine⟨i0,i0+1,Flat.enc x0,rfl,rfl,by omega,hi0,Kp.refl _ _,?_,?_,?_⟩
   ·rw[ht,List.filter_append,e4];simp[e3];omega
   ·rw[kM,Nat.add_sub_cancel_left,Nat.one_mul]
   ·have e:h.get b=⟨(h.get b).cells,(h.get b).es,(h.get b).st⟩:=rfl
    rw[e,hc,hes,Io,ht,List.filter_append,e4]
    congr 1
    have:xs=xs.take i0++x0::xs.drop (i0+1):=by rw[←hd,List.take_append_drop]
    conv=>lhs;rw[this]
    simp[e3]
  ·rintro k vs h1 ⟨i,j,junk,rfl,rfl,hij,hj,kp,hlen,hjl,hg⟩
   have hb1:b < h1.n:=Nat.lt_of_lt_of_le hb kp.1
   have hA:(pre++((xs.take j).filter fun x=>!p x).flatMap Flat.enc).length=pre.length+i * Cel.w α:=by
    rw[List.length_append,Gc,hlen]
   have hji:i * Cel.w α+(j - i) * Cel.w α=j * Cel.w α:=by rw[←Nat.add_mul];congr 1;omega
   simp only[g0,g1]
   refine Ls (iH (fun hlt=>?_) (fun hge=>?_))
   ·obtain⟨x,hx,hd,ht⟩:=aP (show j < xs.length by omega)
    refine dM (Xb (by omega) ?_)
    have a1:At h1 b (pre.length+j * Cel.w α) (Flat.enc x):=by
     refine alG (es:=Cel.w α) (A:=(pre++((xs.take j).filter fun x=>!p x).flatMap Flat.enc)++junk) (R:=(xs.drop (j+1)).flatMap Flat.enc++post) hb1 (by rw[hg,hd,List.flatMap_cons];simp only[List.append_assoc]) ?_
     rw[List.length_append,hA,hjl];omega
    refine jf a1 (Ext.refl _) hpos (List.take_of_length_le (by rw[kM];exact Nat.le_refl _)) (kM x) ?_
    refine jD ?_
    refine yL rfl (kM x) (by omega) ?_
    have hsp:splice zero 0 (Flat.enc x)=Flat.enc x:=by
     unfold splice;rw[List.drop_of_length_le (by rw[kM];omega)];simp
    rw[hsp]
    refine jf jY (Ext.refl _) hpos (List.take_of_length_le (by rw[kM];exact Nat.le_refl _)) (kM x) ?_
    refine sU (hf _ (kp.AZ ((Ext.refl _).push _)) x _ [] (Flat.dw.2 ⟨rfl,rfl⟩)) ?_
    refine H9 (lY (yT (fun hp=>?_) (fun hp=>?_)))
    ·refine jf jY (Ext.refl _) hpos (List.take_of_length_le (by rw[kM];exact Nat.le_refl _)) (kM x) ?_
     refine Xb (by omega) ?_
     have hbn:b≠h1.n:=by omega
     have hg2:(h1.push ⟨Flat.enc x,0,0⟩).get b=⟨(pre++((xs.take j).filter fun x=>!p x).flatMap Flat.enc)++(junk++((xs.drop j).flatMap Flat.enc++post)),Cel.w α,0⟩:=by simp[hbn,hg]
     have hjw:Cel.w α≤junk.length:=by rw[hjl];exact Nat.le_mul_of_pos_left _ (by omega)
     refine zl (by simp only[mine,hg2]) rfl (kM x) (by rw[hg2];simp only[List.length_append] at hA ⊢;omega) ?_
     refine jc (j:=i) (by omega) ?_
     refine dQ (jW ?_)
     refine jc (j:=j) (by omega) ?_
     refine dQ (jW ?_)
     have hfl:(xs.take (j+1)).filter (fun x=>!p x)=(xs.take j).filter (fun x=>!p x)++[x]:=by rw[ht,List.filter_append];simp at hp;simp[hp]
     refine⟨xs.length - (j+1),by omega,i+1,j+1,junk.drop (Cel.w α)++Flat.enc x,rfl,rfl,by omega,by omega,?_,?_,?_,?_⟩
     ·refine(kp.AZ ((Ext.refl h1).push ⟨Flat.enc x,0,0⟩)).trans ?_
      exact⟨Nat.le_refl _,fun c _ hX=>by have:c≠b:=fun e=>hX (by simp[e]);simp[this]⟩
     ·rw[hfl];simp[hlen]
     ·rw[List.length_append,List.length_drop,hjl,kM,show j+1 - (i+1)=j - i by omega];omega
     ·simp only[gY,if_true,hg2,hfl]
      rw[sQ hA (by rw[List.length_append,kM];omega),kM,hd,List.drop_append_of_le_length hjw]
      simp
    ·refine dQ (jW ?_)
     refine jc (j:=j) (by omega) ?_
     refine dQ (jW ?_)
     have hbn:b≠h1.n:=by omega
     have hfl:(xs.take (j+1)).filter (fun x=>!p x)=(xs.take j).filter (fun x=>!p x):=by rw[ht,List.filter_append];simp at hp;simp[hp]
     refine⟨xs.length - (j+1),by omega,i,j+1,junk++Flat.enc x,rfl,rfl,by omega,by omega,kp.AZ ((Ext.refl _).push _),by rw[hfl];exact hlen,?_,?_⟩
     ·rw[List.length_append,hjl,kM,show j+1 - i=(j - i)+1 by omega,Nat.add_mul,Nat.one_mul]
     ·rw[Gj,if_neg hbn,hg,hfl,hd];simp
   ·have:j=xs.length:=by omega
    subst this
    refine dP (dQ (tJ (by decide) (qh (by decide) (qj ?_))))
    simp only[g0]
    rw[List.take_length] at hlen hg hA
    rw[List.drop_length,List.flatMap_nil,List.nil_append] at hg
    have anO:(h1.get b).es=Cel.w α:=by rw[hg]
    have hm1:mine h1 b:=by simp only[mine,hg]
    have hcl:(h1.get b).cells.length=pre.length+xs.length * Cel.w α+post.length:=by
     rw[hg];simp only[List.length_append] at hA ⊢;omega
    refine vD (i:=i) (by omega) anO hm1 (by omega) (by omega) ?_
    refine YB hm1 hz (by omega) ?_
    have hzl:((List.replicate (xs.length - i) zero).flatten).length=(xs.length - i) * Cel.w α:=by rw[L9,hz]
    have hsp:splice (h1.get b).cells (pre.length+i * Cel.w α) (List.replicate (xs.length - i) zero).flatten=pre++((xs.filter fun x=>!p x).flatMap Flat.enc++((List.replicate (xs.length - i) zero).flatten++post)):=by
     rw[hg,sQ hA (by simp only[List.length_append];omega),hzl,←hjl,List.drop_left]
     simp only[List.append_assoc]
    rw[hsp]
    have hg2:(h1.upd b {h1.get b with cells:=pre++((xs.filter fun x=>!p x).flatMap Flat.enc++((List.replicate (xs.length - i) zero).flatten++post))}).get b=⟨pre++((xs.filter fun x=>!p x).flatMap Flat.enc++((List.replicate (xs.length - i) zero).flatten++post)),Cel.w α,0⟩:=by
     simp only[gY,if_true,hg]
    have hfl:=Gc (xs.filter fun x=>!p x)
    rw[hlen] at hfl
    refine LU (i:=i) (by omega) (by rw[hg2]) (by simp only[mine,hg2]) (by rw[hg2];simp only[List.length_append,hzl,hfl];omega) (by omega) ?_
    refine eY ⟨rfl,_,rfl,kp.trans ?_,?_,o.1,?_⟩
    ·exact⟨Nat.le_refl _,fun c _ hX=>by have:c≠b:=fun e=>hX (by simp[e]);simp[this]⟩
    ·have:=Vd (h:=h1.upd b {h1.get b with cells:=pre++((xs.filter fun x=>!p x).flatMap Flat.enc++((List.replicate (xs.length - i) zero).flatten++post))}) (b:=b) (pre:=pre) (post:=(List.replicate (xs.length - i) zero).flatten++post) (xs:=xs.filter fun x=>!p x) hb1 (by simp only[live,hg2];decide) (by rw[hg2]) (by omega) (by rw[hg2])
     rw[hlen] at this
     exact this
    ·intro c hc
     simp at hc;subst hc
     exact⟨(o.2 c (by simp)).1,by rw[hg2]⟩
theorem XY {w n:Nat} (hw:w=Cel.w α) {v:AV} {x:α} {xs:List α} {F:List Nat} (r:au h v (x::xs) F) (o:Own n h F) (hk:∀ u,au h u xs F→(k u).awp P h Q):(Prog.op (.slc w v (some (.int .i64 1)) none none) k).awp P h Q:=by
 subst hw
 have hpos:=Cel.pos (α:=α)
 rcases r.flat with⟨_,e,_⟩|⟨b,pre,post,rfl,rfl,hb,hl,hes,hs,hc⟩
 ·cases e
 ·have hm:mine h b:=(o.2 b (by simp)).2
  have hlen:(h.get b).cells.length=pre.length+(xs.length+1) * Cel.w α+post.length:=by
   rw[hc];simp only[List.length_append,Gc,List.length_cons];omega
  refine vD (i:=1) (by omega) hes hm (by simp only[List.length_cons];omega) (by simp) ?_
  have:pre.length+1 * Cel.w α=(pre++Flat.enc x).length:=by simp[kM]
  rw[this]
  simp only[List.length_cons,Nat.add_sub_cancel]
  exact hk _ (Vd (post:=post) hb hl hes (by simp at hs;omega) (by rw[hc];simp))
end
end Go.Ab
end
