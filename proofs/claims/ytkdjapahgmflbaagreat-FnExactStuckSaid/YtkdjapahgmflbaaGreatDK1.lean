import Derived.Calls
import Derived.Below
import Derived.Laws.CopyRow
import Derived.Laws.Cells
import Derived.Laws.Tables
import Derived.Laws.AppendOwn
import Derived.Great.BuildSlice
import Derived.Laws.Append
import Derived.Laws.MakeOwn
import Derived.Laws.Strings
import Derived.Laws.BytesString
set_option linter.unusedSimpArgs false
set_option linter.unusedVariables false
section
namespace Go.Ab
open Go.RowKit
inductive AV where
 |int (k:IntKind) (n:Int)
 |bool (b:Bool)
 |str (s:ByteArray)
 |ptr (b off:Nat)
 |zB
 |sl (b off len:Nat)
 |aC
 |fn (f:Nat) (caps:List AV)
 |agg (vs:List AV)
 |tup (vs:List AV)
 |un
 deriving Inhabited
structure Blk where
 cells:List AV
 es:Nat
 st:Nat
structure AH where
 n:Nat
 get:Nat→Blk
def AH.upd (h:AH) (b:Nat) (k:Blk):AH:=⟨h.n,fun i=>if i=b then k else h.get i⟩
def AH.push (h:AH) (k:Blk):AH:=⟨h.n+1,fun i=>if i=h.n then k else h.get i⟩
def AH.kill (h:AH) (b:Nat):AH:=h.upd b {h.get b with st:=2}
structure Pl where
 rb:Nat
 ro:Nat
 R:Nat
 es:Nat
abbrev BM:=Nat→Option Pl
def BM.le (m m':BM):Prop:=∀ b p,m b=some p→m' b=some p
theorem BM.le_refl (m:BM):m.le m:=fun _ _ h=>h
theorem BM.le_trans {a b c:BM} (h:a.le b) (k:b.le c):a.le c:=fun x p hx=>k x p (h x p hx)
def Grow (n:Nat) (m:BM) (n':Nat) (m':BM):Prop:=n≤n'∧∀ b,b < n→m' b=m b
theorem Grow.refl (n:Nat) (m:BM):Grow n m n m:=⟨Nat.le_refl _,fun _ _=>rfl⟩
theorem Grow.trans {n n' n'':Nat} {m m' m'':BM} (h:Grow n m n' m') (k:Grow n' m' n'' m''):Grow n m n'' m'':=
 ⟨Nat.le_trans h.1 k.1,fun b hb=>(k.2 b (Nat.lt_of_lt_of_le hb h.1)).trans (h.2 b hb)⟩
def BM.add (m:BM) (b:Nat) (p:Pl):BM:=fun i=>if i=b then some p else m i
mutual
def aG (m:BM):AV→Value→Prop
 | .int k n,v=>v= .int k n
 | .bool b,v=>v= .bool b
 | .str s,v=>v= .string s
 | .ptr b off,v=>∃ p,m b=some p∧v= .pointer (some ⟨p.rb,p.ro+off,none⟩)
 | .zB,v=>v= .pointer none
 | .sl b off len,v=>∃ p a dh,m b=some p∧v= .slice (some a) len dh∧len≤dh∧off+dh * p.es=p.R∧(dh=0∨a=⟨p.rb,p.ro+off,none⟩)
 | .aC,v=>v= .slice none 0 0
 | .fn f caps,v=>∃ l,aI m caps l∧v= .func (.func f) #[] l.toArray
 | .agg vs,v=>∃ l,aI m vs l∧(∀ x∈l,x.oneCell'=true)∧v= .agg l.toArray
 | .tup vs,v=>∃ l,aI m vs l∧v= .tuple l.toArray
 | .un,_=>True
def aI (m:BM):List AV→List Value→Prop
 |[],l=>l=[]
 |a::as,l=>∃ v vs,l=v::vs∧aG m a v∧aI m as vs
end
mutual
theorem aG.mono {m m':BM} (h:m.le m'):∀ (a:AV) (v:Value),aG m a v→aG m' a v
 | .int ..,v,r=>by simpa only[aG] using r
 | .bool ..,v,r=>by simpa only[aG] using r
 | .str ..,v,r=>by simpa only[aG] using r
 | .zB,v,r=>by simpa only[aG] using r
 | .aC,v,r=>by simpa only[aG] using r
 | .un,v,r=>by simp only[aG]
 | .ptr b off,v,r=>by
  simp only[aG] at r ⊢
  obtain⟨p,hp,hv⟩:=r
  exact⟨p,h _ _ hp,hv⟩
 | .sl b off len,v,r=>by
  simp only[aG] at r ⊢
  obtain⟨p,a,dh,hp,hv⟩:=r
  exact⟨p,a,dh,h _ _ hp,hv⟩
 | .fn f caps,v,r=>by
  simp only[aG] at r ⊢
  obtain⟨l,hl,hv⟩:=r
  exact⟨l,aI.mono h caps l hl,hv⟩
 | .agg vs,v,r=>by
  simp only[aG] at r ⊢
  obtain⟨l,hl,hv⟩:=r
  exact⟨l,aI.mono h vs l hl,hv⟩
 | .tup vs,v,r=>by
  simp only[aG] at r ⊢
  obtain⟨l,hl,hv⟩:=r
  exact⟨l,aI.mono h vs l hl,hv⟩
theorem aI.mono {m m':BM} (h:m.le m'):∀ (a:List AV) (v:List Value),aI m a v→aI m' a v
 |[],l,r=>by simpa only[aI] using r
 |a::as,l,r=>by
  simp only[aI] at r ⊢
  obtain⟨v,vs,hl,hv,hvs⟩:=r
  exact⟨v,vs,hl,aG.mono h a v hv,aI.mono h as vs hvs⟩
end
theorem aI.length {m:BM}:∀ {as:List AV} {l:List Value},aI m as l→as.length=l.length
 |[],l,r=>by simp only[aI] at r;simp[r]
 |a::as,l,r=>by
  simp only[aI] at r
  obtain⟨v,vs,rfl,_,h⟩:=r
  simp[h.length]
theorem aI.nil {m:BM}:aI m [] []:=by simp only[aI]
theorem aI.cons {m:BM} {a:AV} {as:List AV} {v:Value} {vs:List Value} (h:aG m a v) (hs:aI m as vs):aI m (a::as) (v::vs):=by
 simp only[aI];exact⟨v,vs,rfl,h,hs⟩
theorem aI.cons_inv {m:BM} {a:AV} {as:List AV} {l:List Value} (h:aI m (a::as) l):∃ v vs,l=v::vs∧aG m a v∧aI m as vs:=by
 simpa only[aI] using h
theorem aI.get {m:BM}:∀ {as:List AV} {l:List Value},aI m as l→∀ (i:Nat) (a:AV),as[i]? =some a→∃ v,l[i]? =some v∧aG m a v
 |[],_,_,i,a,h=>by simp at h
 |x::xs,l,r,i,a,h=>by
  obtain⟨v,vs,rfl,hv,hvs⟩:=r.cons_inv
  cases i with
  |zero=>simp at h;subst h;exact⟨v,rfl,hv⟩
  |succ i=>simp at h;simpa using aI.get hvs i a h
theorem aI.wm {m:BM}:∀ {as:List AV} {l:List Value},as.length=l.length→(∀ (i:Nat) (a:AV) (v:Value),as[i]? =some a→l[i]? =some v→aG m a v)→aI m as l
 |[],l,hl,_=>by simp at hl;simp only[aI];exact List.length_eq_zero_iff.1 hl.symm
 |a::as,[],hl,_=>by simp at hl
 |a::as,v::vs,hl,h=>aI.cons (h 0 a v rfl rfl) (aI.wm (by simpa using hl) fun i x y hx hy=>h (i+1) x y (by simpa using hx) (by simpa using hy))
theorem aI.append {m:BM}:∀ {as bs:List AV} {l k:List Value},aI m as l→aI m bs k→aI m (as++bs) (l++k)
 |[],bs,l,k,h,h2=>by simp only[aI] at h;subst h;simpa using h2
 |a::as,bs,l,k,h,h2=>by
  obtain⟨v,vs,rfl,hv,hvs⟩:=h.cons_inv
  exact aI.cons hv (aI.append hvs h2)
theorem aI.take {m:BM} {as:List AV} {l:List Value} (h:aI m as l) (n:Nat):aI m (as.take n) (l.take n):=by
 refine aI.wm (by simp[h.length]) fun i a v ha hv=>?_
 rw[List.getElem?_take] at ha hv
 split at ha
 ·rename_i hi
  rw[if_pos hi] at hv
  obtain⟨v',h1,h2⟩:=h.get i a ha
  rw[h1] at hv;cases hv;exact h2
 ·simp at ha
theorem aI.drop {m:BM} {as:List AV} {l:List Value} (h:aI m as l) (n:Nat):aI m (as.drop n) (l.drop n):=by
 refine aI.wm (by simp[h.length]) fun i a v ha hv=>?_
 rw[List.getElem?_drop] at ha hv
 obtain⟨v',h1,h2⟩:=h.get _ a ha
 rw[h1] at hv;cases hv;exact h2
theorem yu {m:BM} {k:IntKind} {n:Int}:aG m (.int k n) (.int k n):=by simp only[aG]
theorem VE {m:BM} {b:Bool}:aG m (.bool b) (.bool b):=by simp only[aG]
theorem akg {m:BM} {s:ByteArray}:aG m (.str s) (.string s):=by simp only[aG]
theorem VD {m:BM}:aG m .aC (.slice none 0 0):=by simp only[aG]
def ext (k:Blk) (p:Pl):Nat:=max k.cells.length p.R
def wT (m:BM) (k:Blk) (p:Pl) (w:World):Prop:=
 k.es=p.es∧∀ i v,k.cells[i]? =some v→∃ v',w.cell? ⟨p.rb,p.ro+i,none⟩=some v'∧aG m v v'∧v'.oneCell'=true
def I6 (B:Nat) (k:Blk) (p:Pl) (w:World):Prop:=
 B≤p.rb∧(k.es≠0→k.cells.length≤p.R)∧∃ c e,w.heap[p.rb]? =some (.cells c e (0,0))∧p.ro+ext k p≤c.size
def Apart (k:Blk) (p:Pl) (k':Blk) (p':Pl):Prop:=
 p.rb≠p'.rb∨p.ro+ext k p≤p'.ro∨p'.ro+ext k' p'≤p.ro
theorem Apart.symm {k k':Blk} {p p':Pl} (h:Apart k p k' p'):Apart k' p' k p:=by
 rcases h with h|h|h
 ·exact .inl fun e=>h e.symm
 ·exact .inr (.inr h)
 ·exact .inr (.inl h)
structure Sim (B:Nat) (w0:World) (m:BM) (h:AH) (w:World):Prop where
 below:Below B w0 w
 room:B≤w.heap.size
 dom:∀ b p,m b=some p→b < h.n
 blk:∀ b p,m b=some p→(h.get b).st≠2→wT m (h.get b) p w
 own:∀ b p,m b=some p→(h.get b).st=0→I6 B (h.get b) p w
 old:∀ b p,m b=some p→(h.get b).st=1→p.rb < B∨(h.get b).cells=[]
 sep:∀ b b' p p',b≠b'→m b=some p→m b'=some p'→(h.get b).st=0→(h.get b').st=0→Apart (h.get b) p (h.get b') p'
 sts:∀ b,(h.get b).st=0∨(h.get b).st=1∨(h.get b).st=2
 fresh:∀ b,h.n≤b→(h.get b).st=2
variable{B:Nat} {w0 w w':World} {m:BM} {h:AH}
theorem Grow.le {n':Nat} {m':BM} (g:Grow h.n m n' m') (s:Sim B w0 m h w):m.le m':=fun b p hp=>by rw[g.2 b (s.dom b p hp)];exact hp
theorem akH (n:Nat) (m:BM) (p:Pl):Grow n m (n+1) (m.add n p):=⟨by omega,fun b hb=>by simp[BM.add];omega⟩
theorem wT.mono {m m':BM} (hm:m.le m') {k:Blk} {p:Pl} (r:wT m k p w):wT m' k p w:=
 ⟨r.1,fun i v hv=>let⟨v',h1,h2,h3⟩:=r.2 i v hv;⟨v',h1,aG.mono hm _ _ h2,h3⟩⟩
theorem Sim.drew (s:Sim B w0 m h w) (k:Nat):Sim B w0 m h {w with drawn:=k}:=
 ⟨⟨s.below.os,s.below.tape,s.below.output,s.below.size,s.below.block⟩,s.room,s.dom,fun b p hp hs=>s.blk b p hp hs,fun b p hp hs=>s.own b p hp hs,s.old,s.sep,s.sts,s.fresh⟩
theorem Sim.kill (s:Sim B w0 m h w) (b:Nat):Sim B w0 m (h.kill b) w:=by
 have hst:∀ x,((h.kill b).get x).st≠2→x≠b∧(h.kill b).get x=h.get x:=by
  intro x hx
  by_cases e:x=b
  ·subst e;simp[AH.kill,AH.upd] at hx
  ·exact⟨e,by simp[AH.kill,AH.upd,e]⟩
 refine⟨s.below,s.room,s.dom,?_,?_,?_,?_,?_,?_⟩
 ·intro x p hp hx
  obtain⟨_,e⟩:=hst x hx
  rw[e] at hx ⊢;exact s.blk x p hp hx
 ·intro x p hp hx
  obtain⟨_,e⟩:=hst x (by omega)
  rw[e] at hx ⊢;exact s.own x p hp hx
 ·intro x p hp hx
  obtain⟨_,e⟩:=hst x (by omega)
  rw[e] at hx ⊢;exact s.old x p hp hx
 ·intro x y p p' hne hp hp' hx hy
  obtain⟨_,e⟩:=hst x (by omega)
  obtain⟨_,e'⟩:=hst y (by omega)
  rw[e] at hx ⊢;rw[e'] at hy ⊢;exact s.sep x y p p' hne hp hp' hx hy
 ·intro x
  by_cases e:x=b
  ·subst e;simp[AH.kill,AH.upd]
  ·simp only[AH.kill,AH.upd,e,if_false];exact s.sts x
 ·intro x hx
  by_cases e:x=b
  ·subst e;simp[AH.kill,AH.upd]
  ·simp only[AH.kill,AH.upd,e,if_false];exact s.fresh x hx
theorem Sim.adopt (s:Sim B w0 m h w) (k:Blk) (p:Pl) (hst:k.st=0) (ho:I6 B k p w) (hb:wT (m.add h.n p) k p w)
  (hs:∀ b p',m b=some p'→(h.get b).st=0→Apart (h.get b) p' k p):
  Grow h.n m (h.n+1) (m.add h.n p)∧Sim B w0 (m.add h.n p) (h.push k) w:=by
 have hle:m.le (m.add h.n p):=by
  intro b q hq
  have:b≠h.n:=fun e=>by have:=s.dom b q hq;omega
  simp[BM.add,this,hq]
 have old:∀ b q,b≠h.n→m.add h.n p b=some q→m b=some q∧(h.push k).get b=h.get b:=by
  intro b q hne hq
  simp only[BM.add,hne,if_false] at hq
  exact⟨hq,by simp[AH.push,hne]⟩
 have new:∀ q,m.add h.n p h.n=some q→q=p∧(h.push k).get h.n=k:=by
  intro q hq
  simp only[BM.add,if_true,Option.some.injEq] at hq
  exact⟨hq.symm,by simp[AH.push]⟩
 refine⟨akH _ _ _,s.below,s.room,?_,?_,?_,?_,?_,?_,?_⟩
 ·intro b q hq
  by_cases e:b=h.n
  ·subst e;simp[AH.push]
  ·have:=s.dom b q (old b q e hq).1;simp only[AH.push];omega
 ·intro b q hq hx
  by_cases e:b=h.n
  ·subst e
   obtain⟨rfl,e2⟩:=new q hq
   rw[e2];exact hb
  ·obtain⟨h1,h2⟩:=old b q e hq
   rw[h2] at hx ⊢
   exact(s.blk b q h1 hx).mono hle
 ·intro b q hq hx
  by_cases e:b=h.n
  ·subst e
   obtain⟨rfl,e2⟩:=new q hq
   rw[e2];exact ho
  ·obtain⟨h1,h2⟩:=old b q e hq
   rw[h2] at hx ⊢
   exact s.own b q h1 hx
 ·intro b q hq hx
  by_cases e:b=h.n
  ·subst e
   obtain⟨rfl,e2⟩:=new q hq
   rw[e2] at hx;omega
  ·obtain⟨h1,h2⟩:=old b q e hq
   rw[h2] at hx ⊢
   exact s.old b q h1 hx
 ·intro b b' q q' hne hq hq' hx hx'
  by_cases e:b=h.n
  ·subst e
   obtain⟨rfl,e2⟩:=new q hq
   obtain⟨h1,h2⟩:=old b' q' (fun e=>hne e.symm) hq'
   rw[h2] at hx' ⊢;rw[e2]
   exact(hs b' q' h1 hx').symm
  ·obtain⟨h1,h2⟩:=old b q e hq
   rw[h2] at hx ⊢
   by_cases e':b'=h.n
   ·subst e'
    obtain⟨rfl,e2⟩:=new q' hq'
    rw[e2]
    exact hs b q h1 hx
   ·obtain⟨h1',h2'⟩:=old b' q' e' hq'
    rw[h2'] at hx' ⊢
    exact s.sep b b' q q' hne h1 h1' hx hx'
 ·intro b
  by_cases e:b=h.n
  ·subst e;simp[AH.push,hst]
  ·simp only[AH.push,e,if_false];exact s.sts b
 ·intro b hb
  have e:b≠h.n:=fun e=>by simp only[AH.push] at hb;omega
  simp only[AH.push,e,if_false] at hb ⊢
  exact s.fresh b (by omega)
theorem Sim.Wu (s:Sim B w0 m h w) {rb:Nat} (hrb:B≤rb) {c c':Array Value} {e:TypeId} (hc:w.heap[rb]? =some (.cells c e (0,0))) (hsz:c'.size=c.size)
  (hs:∀ b p,m b=some p→(h.get b).st=0→p.rb=rb→∀ i,i < ext (h.get b) p→c'[p.ro+i]? =c[p.ro+i]?):
  Sim B w0 m h (w.setRow rb c'):=by
 have hnew:=setRow_heap w rb c c' e (0,0) hc
 have hoth:∀ k,k≠rb→(w.setRow rb c').heap[k]? =w.heap[k]? :=fun k hk=>setRow_other w rb k c' hk
 refine⟨s.below.trans ⟨rfl,rfl,rfl,by simp,fun k hk=>hoth k (by omega)⟩,by simpa using s.room,s.dom,?_,?_,s.old,s.sep,s.sts,s.fresh⟩
 ·intro b p hp hx
  have hb:=s.blk b p hp hx
  by_cases e1:p.rb=rb
  ·refine⟨hb.1,fun i v hv=>?_⟩
   have h0:(h.get b).st=0:=by
    rcases s.sts b with g|g|g
    ·exact g
    ·rcases s.old b p hp g with g'|g'
     ·omega
     ·rw[g'] at hv;cases hv
    ·exact absurd g hx
   obtain⟨v',h1,h2,h3⟩:=hb.2 i v hv
   refine⟨v',?_,h2,h3⟩
   have hi:i < ext (h.get b) p:=by
    have:=(List.getElem?_eq_some_iff.1 hv).1
    unfold ext;omega
   have:=hs b p hp h0 e1 i hi
   simp only[World.cell?,e1,hnew,hc] at h1 ⊢
   simpa[this] using h1
  ·refine⟨hb.1,fun i v hv=>?_⟩
   obtain⟨v',h1,h2,h3⟩:=hb.2 i v hv
   exact⟨v',by rw[World.cell?_of_block (w:=w) (hoth _ e1)];exact h1,h2,h3⟩
 ·intro b p hp hx
  obtain⟨h1,h2,cc,ee,h3,h4⟩:=s.own b p hp hx
  by_cases e1:p.rb=rb
  ·refine⟨h1,h2,c',e,by rw[e1];exact hnew,?_⟩
   rw[e1,hc] at h3
   cases h3
   rw[hsz];exact h4
  ·exact⟨h1,h2,cc,ee,by rw[hoth _ e1];exact h3,h4⟩
theorem Sim.write (s:Sim B w0 m h w) {b:Nat} {p:Pl} (hp:m b=some p) (hst:(h.get b).st=0) {c c':Array Value} {e:TypeId} (hc:w.heap[p.rb]? =some (.cells c e (0,0))) (hsz:c'.size=c.size)
  (cs:List AV) (hl:cs.length=(h.get b).cells.length)
  (hn:∀ (i:Nat) (v:AV),cs[i]? =some v→∃ v':Value,c'[p.ro+i]? =some v'∧aG m v v'∧v'.oneCell'=true)
  (hs:∀ j,j < p.ro∨p.ro+(h.get b).cells.length≤j→c'[j]? =c[j]?):
  Sim B w0 m (h.upd b {h.get b with cells:=cs}) (w.setRow p.rb c'):=by
 obtain⟨ho,ho2,_,_,ho3,ho4⟩:=s.own b p hp hst
 rw[hc] at ho3;cases ho3
 have hnew:=setRow_heap w p.rb c c' e (0,0) hc
 have hoth:∀ k,k≠p.rb→(w.setRow p.rb c').heap[k]? =w.heap[k]? :=fun k hk=>setRow_other w p.rb k c' hk
 have IW:(h.upd b {h.get b with cells:=cs}).get b={h.get b with cells:=cs}:=by simp[AH.upd]
 have CF:∀ x,x≠b→(h.upd b {h.get b with cells:=cs}).get x=h.get x:=fun x hx=>by simp[AH.upd,hx]
 have hext:∀ x q,ext ((h.upd b {h.get b with cells:=cs}).get x) q=ext (h.get x) q:=by
  intro x q
  by_cases e:x=b
  ·subst e;rw[IW];simp[ext,hl]
  ·rw[CF x e]
 have Cy:∀ x,((h.upd b {h.get b with cells:=cs}).get x).st=(h.get x).st:=by
  intro x
  by_cases e:x=b
  ·subst e;rw[IW]
  ·rw[CF x e]
 refine⟨s.below.trans ⟨rfl,rfl,rfl,by simp,fun k hk=>hoth k (by omega)⟩,by simpa using s.room,s.dom,?_,?_,?_,?_,?_,?_⟩
 ·intro x q hq hx
  by_cases ex:x=b
  ·subst ex
   rw[hp] at hq;cases hq
   rw[IW]
   refine⟨(s.blk _ _ hp (by omega)).1,fun i v hv=>?_⟩
   obtain⟨v',h1,h2,h3⟩:=hn i v hv
   exact⟨v',by simpa[World.cell?,hnew] using h1,h2,h3⟩
  ·rw[CF x ex] at hx ⊢
   have hb:=s.blk x q hq hx
   by_cases e1:q.rb=p.rb
   ·refine⟨hb.1,fun i v hv=>?_⟩
    have h0:(h.get x).st=0:=by
     rcases s.sts x with g|g|g
     ·exact g
     ·rcases s.old x q hq g with g'|g'
      ·omega
      ·rw[g'] at hv;cases hv
     ·exact absurd g hx
    obtain⟨v',h1,h2,h3⟩:=hb.2 i v hv
    refine⟨v',?_,h2,h3⟩
    have hi:i < ext (h.get x) q:=by
     have:=(List.getElem?_eq_some_iff.1 hv).1
     unfold ext;omega
    have hle:(h.get b).cells.length≤ext (h.get b) p:=by unfold ext;omega
    have hap:=s.sep x b q p ex hq hp h0 hst
    have:=hs (q.ro+i) (by
     rcases hap with g|g|g
     ·exact absurd e1 g
     ·left;omega
     ·right;omega)
    simp only[World.cell?,e1,hnew,hc] at h1 ⊢
    simpa[this] using h1
   ·refine⟨hb.1,fun i v hv=>?_⟩
    obtain⟨v',h1,h2,h3⟩:=hb.2 i v hv
    exact⟨v',by rw[World.cell?_of_block (w:=w) (hoth _ e1)];exact h1,h2,h3⟩
 ·intro x q hq hx
  rw[Cy] at hx
  obtain⟨h1,h2,cc,ee,h3,h4⟩:=s.own x q hq hx
  unfold I6
  rw[hext]
  refine⟨h1,?_,?_⟩
  ·by_cases ex:x=b
   ·subst ex;rw[IW];simpa[hl] using h2
   ·rw[CF x ex];exact h2
  ·by_cases e1:q.rb=p.rb
   ·refine⟨c',e,by rw[e1];exact hnew,?_⟩
    rw[e1,hc] at h3
    cases h3
    rw[hsz];exact h4
   ·exact⟨cc,ee,by rw[hoth _ e1];exact h3,h4⟩
 ·intro x q hq hx
  rw[Cy] at hx
  rcases s.old x q hq hx with g|g
  ·exact .inl g
  ·have ex:x≠b:=fun e=>by rw[e] at hx;omega
   rw[CF x ex];exact .inr g
 ·intro x y q q' hne hq hq' hx hy
  rw[Cy] at hx hy
  unfold Apart
  rw[hext,hext]
  exact s.sep x y q q' hne hq hq' hx hy
 ·intro x;rw[Cy];exact s.sts x
 ·intro x hx;rw[Cy];exact s.fresh x hx
theorem Sim.alloc (s:Sim B w0 m h w) (o:Obj):Sim B w0 m h (w.alloc o):=by
 have hh:∀ k,k < w.heap.size→(w.alloc o).heap[k]? =w.heap[k]? :=fun k hk=>Below.heap_alloc w o k hk
 have lt:∀ {k:Nat} {x:Obj},w.heap[k]? =some x→k < w.heap.size:=fun g=>(Array.getElem?_eq_some_iff.1 g).1
 refine⟨s.below.alloc s.room o,by have:=s.room;show B≤(w.heap.push o).size;simp;omega,s.dom,?_,?_,s.old,s.sep,s.sts,s.fresh⟩
 ·intro b p hp hx
  have hb:=s.blk b p hp hx
  refine⟨hb.1,fun i v hv=>?_⟩
  obtain⟨v',h1,h2,h3⟩:=hb.2 i v hv
  refine⟨v',?_,h2,h3⟩
  have:p.rb < w.heap.size:=by
   unfold World.cell? at h1
   split at h1
   ·rename_i hx;exact lt hx
   ·cases h1
  rw[World.cell?_of_block (w:=w) (hh _ this)];exact h1
 ·intro b p hp hx
  obtain⟨h1,h2,c,e,h3,h4⟩:=s.own b p hp hx
  exact⟨h1,h2,c,e,by rw[hh _ (lt h3)];exact h3,h4⟩
theorem Sim.make (s:Sim B w0 m h w) (k:Blk) (R:Nat) (c:Array Value) (e:TypeId) (hst:k.st=0) (hR:k.es≠0→k.cells.length≤R) (hsz:max k.cells.length R≤c.size)
  (hc:∀ (i:Nat) (v:AV),k.cells[i]? =some v→∃ v':Value,c[i]? =some v'∧aG m v v'∧v'.oneCell'=true):
  Grow h.n m (h.n+1) (m.add h.n ⟨w.heap.size,0,R,k.es⟩)∧Sim B w0 (m.add h.n ⟨w.heap.size,0,R,k.es⟩) (h.push k) (w.alloc (.cells c e)):=by
 have hg:(w.alloc (.cells c e)).heap[w.heap.size]? =some (.cells c e (0,0)):=by show(w.heap.push _)[w.heap.size]? =_;simp
 have hle:m.le (m.add h.n ⟨w.heap.size,0,R,k.es⟩):=by
  intro b q hq
  have:b≠h.n:=fun e=>by have:=s.dom b q hq;omega
  simp[BM.add,this,hq]
 refine(s.alloc _).adopt k _ hst ⟨s.room,hR,c,e,hg,by simpa[ext] using hsz⟩ ⟨rfl,fun i v hv=>?_⟩ ?_
 ·obtain⟨v',h1,h2,h3⟩:=hc i v hv
  exact⟨v',by unfold World.cell?;rw[show(w.alloc (.cells c e)).heap[(⟨w.heap.size,0+i,none⟩:Addr).block]? =_ from hg];simpa using h1,aG.mono hle _ _ h2,h3⟩
 ·intro b p hp hx
  obtain⟨_,_,c',e',h3,_⟩:=s.own b p hp hx
  left
  have:=(Array.getElem?_eq_some_iff.1 h3).1
  simp;omega
end Go.Ab
end
section
namespace Go.Ab
open Go.RowKit
inductive AOp where
 |mv (x:AV)
 |pick (c a b:AV)
 |alloc (cells:List AV)
 |box (v:AV)
 |build (zero:List AV) (parts:List (Nat × Nat × AV))
 |aU (es n:Nat) (zero:List AV) (parts:List (Nat × Nat × AV))
 |ld1 (a:AV)
 |ldn (n:Nat) (a:AV)
 |st (n:Nat) (a x:AV)
 |fad (off:Nat) (a:AV)
 |zD (off:Nat) (x:AV)
 |Oa (off n:Nat) (x:AV)
 |idx (es:Nat) (x i:AV)
 |jR (x i:AV)
 |bin (ty:Nat) (op:BinOp) (x y:AV)
 |eqs (tys:List Nat) (neg:Bool) (x y:AV)
 |una (op:UnOp) (x:AV)
 |conv(k:IntKind) (x:AV)
 |CG (x:AV)
 |len (ty:Nat) (x:AV)
 |Zv (es:Nat) (x:AV)
 |app (es bytes:Nat) (x y:AV)
 |cpy (es:Nat) (x y:AV)
 |clr (es:Nat) (zero:List AV) (x:AV)
 |mnx (mn:Bool) (xs:List AV)
 |iw (es bytes:Nat) (zero:List AV) (n c:AV)
 |slc (es:Nat) (x:AV) (lo hi mx:Option AV)
 |zw (x:AV) (lo hi:Option AV) (mx:AV)
 |Nr (x:AV) (lo hi:Option AV)
 |bg (x:AV)
 |ext (x:AV) (i:Nat)
 |kr (f:Nat) (caps:List AV)
 |call (f:Nat) (args:List AV)
 |iC (f:AV) (args:List AV)
 |bad
 deriving Inhabited
def AV.cells? :AV→Option (List AV)
 | .agg vs=>some vs
 | .tup _=>none
 | .un=>none
 |v=>some [v]
def splice (cs:List AV) (off:Nat) (xs:List AV):List AV:=cs.take off++xs++cs.drop (off+xs.length)
def cZ:List AV→List (Nat × Nat × AV)→Option (List AV)
 |cs,[]=>some cs
 |cs,(off,size,v)::rest=>
  match v.cells? with
  |some xs=>if xs.length=size∧off+size≤cs.length then cZ (splice cs off xs) rest else none
  |none=>none
def fJ (op:BinOp):AV→AV→Option AV
 | .int k a,.int k' b=>
  match op with
  | .shl=>if b < 0 then none else some (.int k (k.wrap (a * 2 ^ (min b.toNat k.bits))))
  | .shr=>if b < 0 then none else some (.int k (a.fdiv (2 ^ (min b.toNat k.bits))))
  | .add=>if k=k' then some (.int k (k.wrap (a+b))) else none
  | .sub=>if k=k' then some (.int k (k.wrap (a - b))) else none
  | .mul=>if k=k' then some (.int k (k.wrap (a * b))) else none
  | .quo=>if k=k'∧b≠0 then some (.int k (k.wrap (a.tdiv b))) else none
  | .rem=>if k=k'∧b≠0 then some (.int k (a.tmod b)) else none
  | .and=>if k=k' then some (.int k (k.wrap (BitVec.ofInt k.bits a &&& BitVec.ofInt k.bits b).toNat)) else none
  | .or=>if k=k' then some (.int k (k.wrap (BitVec.ofInt k.bits a |||BitVec.ofInt k.bits b).toNat)) else none
  | .xor=>if k=k' then some (.int k (k.wrap (BitVec.ofInt k.bits a ^^^ BitVec.ofInt k.bits b).toNat)) else none
  | .andNot=>none
  | .eql=>if k=k' then some (.bool (decide (a=b))) else none
  | .neq=>if k=k' then some (.bool (!decide (a=b))) else none
  | .lss=>if k=k' then some (.bool (decide (a < b))) else none
  | .leq=>if k=k' then some (.bool (decide (a≤b))) else none
  | .gtr=>if k=k' then some (.bool (decide (b < a))) else none
  | .geq=>if k=k' then some (.bool (decide (b≤a))) else none
 | .bool a,.bool b=>
  match op with
  | .eql=>some (.bool (a == b))
  | .neq=>some (.bool (!(a == b)))
  |_=>none
 | .str a,.str b=>
  match op with
  | .add=>if((a.size+b.size:Nat):Int)≤9223372036854775807 then some (.str (a++b)) else none
  | .eql=>some (.bool (decide (a=b)))
  | .neq=>some (.bool (!decide (a=b)))
  | .lss=>some (.bool (Op.bytesLess a.toList b.toList))
  | .leq=>some (.bool (Op.bytesLess a.toList b.toList || decide (a=b)))
  | .gtr=>some (.bool (!(Op.bytesLess a.toList b.toList || decide (a=b))))
  | .geq=>some (.bool (!(Op.bytesLess a.toList b.toList)))
  |_=>none
 |_,_=>none
def fQ:Nat→AV→AV→Bool
 |0,.int ..,.int .. =>true
 |1,.str ..,.str .. =>true
 |2,.bool ..,.bool .. =>true
 |_,_,_=>false
def pR:List Nat→List AV→List AV→Option Bool
 |[],[],[]=>some true
 |t::ts,x::xs,y::ys=>
  match fQ t x y,fJ .eql x y with
  |true,some (.bool b)=>match pR ts xs ys with
   |some c=>some (b && c)
   |none=>none
  |_,_=>none
 |_,_,_=>none
def Zw (op:UnOp):AV→Option AV
 | .bool b=>match op with
  | .not=>some (.bool (!b))
  |_=>none
 | .int k n=>match op with
  | .neg=>some (.int k (k.wrap (0 - n)))
  |_=>none
 |_=>none
def pE (mn:Bool):Int→List AV→Option Int
 |a,[]=>some a
 |a,.int .i64 b::rest=>pE mn (if mn then(if b < a then b else a) else(if a < b then b else a)) rest
 |_,_=>none
def uI (mn:Bool):List AV→Option Int
 | .int .i64 a::rest=>pE mn a rest
 |_=>none
def lI :AV→Option Int
 | .int _ n=>some n
 |_=>none
def bnd (o:Option AV) (d:Int):Option Int:=
 match o with
 |some l=>lI l
 |none=>some d
def akP (P:Program) (f:FuncId):Prop:=
 ∃ fn,P.funcs[f]? =some fn∧(fn.name == "runtime.NumGoroutine")=false∧fn.body.isNone=false
def bN (P:Program) (f:FuncId) (args:List AV) (h:AH) (R:AV→AH→Prop):Prop:=
 akP P f∧∀ (B:Nat) (w0:World) (m:BM) (w:World) (l:List Value),Sim B w0 m h w→aI m args l→
  Calls P f l.toArray w fun e w'=>∃ v a m' h',e= .returned v∧Grow h.n m h'.n m'∧Sim B w0 m' h' w'∧aG m' a v∧R a h'
def live (h:AH) (b:Nat):Prop:=(h.get b).st≠2
def mine (h:AH) (b:Nat):Prop:=(h.get b).st=0
def mP (h:AH) (es:Nat):AV→Option (List AV)
 | .aC=>some []
 | .sl b off len=>if off+len * es≤(h.get b).cells.length then some (((h.get b).cells.drop off).take (len * es)) else none
 | .str s=>if es=1 then some (s.data.toList.map fun c=>.int .u8 c.toNat) else none
 |_=>none
def mg:AV→Option Nat
 | .aC=>some 0
 | .sl _ _ len=>some len
 | .str s=>some s.size
 |_=>none
def Ce (h:AH):AV→Prop
 | .sl b _ len=>len=0∨live h b
 |_=>True
def wz:List AV→Option (List Int)
 |[]=>some []
 | .int .u8 n::r=>match wz r with
  |some l=>some (n::l)
  |none=>none
 |_=>none
def Cn (h:AH):AV→Option ByteArray
 | .aC=>some .empty
 | .sl b off len=>if off+len≤(h.get b).cells.length then match wz (((h.get b).cells.drop off).take len) with
   |some ns=>some (ns.foldl (fun r n=>r.push (UInt8.ofNat n.toNat)) ByteArray.empty)
   |none=>none
  else none
 |_=>none
def Co (h:AH):AV→Prop
 | .sl b _ _=>live h b
 |_=>True
def yY:Nat→AV→Bool
 |0,.sl .. =>true
 |0,.aC=>true
 |1,.str .. =>true
 |_,_=>false
def AOp.go (P : Program) (o : AOp) (h : AH) (K : AV → AH → Prop) : Prop :=
  match o with
  | .mv x => K x h
  | .pick c a b => match c with
    | .bool c => K (if c then a else b) h
    | _ => False
  | .alloc cells => K (.ptr h.n 0) (h.push ⟨cells, 0, 0⟩)
  | .box v => match v.cells? with
    | some cs => K (.ptr h.n 0) (h.push ⟨cs, 0, 0⟩)
    | none => False
  | .build zero parts => match cZ zero parts with
    | some cs => K (.agg cs) h
    | none => False
  | .aU es n zero parts => match cZ zero parts with
    | some cs => n * es ≤ 16777216 ∧ cs.length = n * es ∧ K (.sl h.n 0 n) (h.push ⟨cs, es, 0⟩)
    | none => False
  | .ld1 a => match a with
    | .ptr b o => match (h.get b).cells[o]? with
      | some v => live h b ∧ K v h
      | none => False
    | _ => False
  | .ldn n a => match a with
    | .ptr b o => live h b ∧ o + n ≤ (h.get b).cells.length ∧ K (.agg (((h.get b).cells.drop o).take n)) h
    | _ => False
  | .st n a x => match a, x.cells? with
    | .ptr b o, some xs => mine h b ∧ xs.length = n ∧ o + n ≤ (h.get b).cells.length ∧ K (.tup []) (h.upd b { h.get b with cells := splice (h.get b).cells o xs })
    | _, _ => False
  | .fad off a => match a with
    | .ptr b o => K (.ptr b (o + off)) h
    | _ => False
  | .zD off x => match x with
    | .agg vs => match vs[off]? with
      | some v => K v h
      | none => False
    | _ => False
  | .Oa off n x => match x with
    | .agg vs => off + n ≤ vs.length ∧ K (.agg ((vs.drop off).take n)) h
    | _ => False
  | .idx es x i => match x, i with
    | .sl b off ln, .int _ i => 0 ≤ i ∧ i < ln ∧ K (.ptr b (off + i.toNat * es)) h
    | _, _ => False
  | .jR x i => match x, i with
    | .str s, .int _ i => 0 ≤ i ∧ ∃ c : UInt8, s[i.toNat]? = some c ∧ K (.int .u8 c.toNat) h
    | _, _ => False
  | .bin ty op x y => match fQ ty x y with
    | true => match fJ op x y with
      | some v => K v h
      | none => False
    | false => False
  | .eqs tys neg x y => match x, y with
    | .agg xs, .agg ys => match pR tys xs ys with
      | some b => K (.bool (if neg then !b else b)) h
      | none => False
    | _, _ => False
  | .una op x => match Zw op x with
    | some v => K v h
    | none => False
  | .conv k x => match x with
    | .int _ n => K (.int k (k.wrap n)) h
    | _ => False
  | .CG x => match Cn h x with
    | some s => Co h x ∧ K (.str s) h
    | none => False
  | .len ty x => match yY ty x with
    | true => match mg x with
      | some n => K (.int .i64 n) h
      | none => False
    | false => False
  | .Zv _ _ => False
  | .app es bytes x y => match x, mP h es y, mg y with
    | .aC, some new, some n => Ce h y ∧ n * bytes ≤ 70368744177664 ∧ (if n = 0 then K .aC h else K (.sl h.n 0 n) (h.push ⟨new, es, 0⟩))
    | .sl b off ln, some new, some n => mine h b ∧ Ce h y ∧ es ≠ 0 ∧ (h.get b).es = es ∧
        (if off + (ln + n) * es ≤ (h.get b).cells.length
         then K (.sl b off (ln + n)) (h.upd b { h.get b with cells := splice (h.get b).cells (off + ln * es) new })
         else (ln + n) * bytes ≤ 70368744177664 ∧ off + ln * es ≤ (h.get b).cells.length ∧
           K (.sl h.n 0 (ln + n)) ((h.kill b).push ⟨((h.get b).cells.drop off).take (ln * es) ++ new, es, 0⟩))
    | _, _, _ => False
  | .cpy _ _ _ => False
  | .clr es zero x => match x with
    | .aC => K (.tup []) h
    | .sl b off ln => mine h b ∧ zero.length = es ∧ off + ln * es ≤ (h.get b).cells.length ∧ K (.tup []) (h.upd b { h.get b with cells := splice (h.get b).cells off (List.replicate ln zero).flatten })
    | _ => False
  | .mnx mn xs => match uI mn xs with
    | some n => K (.int .i64 n) h
    | none => False
  | .iw es bytes zero n c => match n, c with
    | .int .i64 n, .int .i64 c => 0 ≤ n ∧ n = c ∧ n * bytes ≤ 70368744177664 ∧ K (.sl h.n 0 n.toNat) (h.push ⟨(List.replicate n.toNat zero).flatten, es, 0⟩)
    | _, _ => False
  | .slc es x lo hi mx => match x with
    | .sl b off ln =>
      match bnd lo 0, bnd hi ln with
      | some lo, some hi => es ≠ 0 ∧ (h.get b).es = es ∧ mine h b ∧ off + ln * es ≤ (h.get b).cells.length ∧ 0 ≤ lo ∧ lo ≤ hi ∧ off + hi.toNat * es ≤ (h.get b).cells.length ∧
        (match mx with
         | none => K (.sl b (off + lo.toNat * es) (hi - lo).toNat) h
         | some _ => False)
      | _, _ => False
    | .aC =>
      match bnd lo 0, bnd hi 0 with
      | some lo, some hi => lo = 0 ∧ hi = 0 ∧ mx.isNone = true ∧ K .aC h
      | _, _ => False
    | _ => False
  | .zw x lo hi mx => match x with
    | .sl b off ln =>
      match bnd lo 0, bnd hi 0, lI mx with
      | some l, some hh, some q => hi.isSome = true ∧ 0 ≤ l ∧ l ≤ hh ∧ hh ≤ q ∧ q ≤ ln ∧ K .un h
      | _, _, _ => False
    | _ => False
  | .Nr x lo hi => match x with
    | .str s =>
      match bnd lo 0, bnd hi s.size with
      | some lo, some hi => 0 ≤ lo ∧ lo ≤ hi ∧ hi ≤ s.size ∧ K (.str (s.extract lo.toNat hi.toNat)) h
      | _, _ => False
    | _ => False
  | .bg x => match x with
    | .ptr b o => K (.ptr b o) h
    | _ => False
  | .ext x i => match x with
    | .tup vs => match vs[i]? with
      | some v => K v h
      | none => False
    | _ => False
  | .kr f caps => K (.fn f caps) h
  | .call f args => bN P f args h K
  | .iC f args => match f with
    | .fn f caps => bN P f (args ++ caps) h K
    | _ => False
  | .bad => False
theorem bN.mono {P:Program} {f:FuncId} {args:List AV} {h:AH} {R R':AV→AH→Prop} (c:bN P f args h R) (hr:∀ v h',R v h'→R' v h'):bN P f args h R':=
 ⟨c.1,fun B w0 m w l s hl=>(c.2 B w0 m w l s hl).mono fun _ _ ⟨v,a,m',h',h1,h2,h3,h4,h5⟩=>⟨v,a,m',h',h1,h2,h3,h4,hr _ _ h5⟩⟩
theorem AOp.XM {P:Program} {o:AOp} {h:AH} {K K':AV→AH→Prop} (g:o.go P h K) (hk:∀ v h',K v h'→K' v h'):o.go P h K':=by
 cases o<;>simp only[AOp.go] at g ⊢
 case call=>exact g.mono hk
 case iC=>(repeat' split at g)<;>first|exact g.elim|exact g.mono hk
 all_goals(repeat' split at g)
 all_goals first
  |exact g.elim
  |exact hk _ _ g
  |(simp_all;done)
  |grind
inductive RV where
 |val (v:AV)
 |c1 (a:AV)
 |cn (n:Nat) (a:AV)
def RV.get (h:AH):RV→Option AV
 | .val v=>some v
 | .c1 a=>match a with
  | .ptr b o=>if(h.get b).st=2 then none else(h.get b).cells[o]?
  |_=>none
 | .cn n a=>match a with
  | .ptr b o=>if(h.get b).st=2 then none else if o+n≤(h.get b).cells.length then some (.agg (((h.get b).cells.drop o).take n)) else none
  |_=>none
def pF (h:AH):List RV→Option (List AV)
 |[]=>some []
 |r::rs=>match r.get h,pF h rs with
  |some v,some vs=>some (v::vs)
  |_,_=>none
def retv:List AV→AV
 |[v]=>v
 |vs=>.tup vs
def AOp.still (P:Program) (o:AOp) (v:AV) (h:AH):Prop:=
 match o with
 | .alloc cells=>match v with
  | .ptr b 0=>(h.get b).cells=cells∧(h.get b).es=0∧(h.get b).st=0
  |_=>False
 | .box x=>match v,x.cells? with
  | .ptr b 0,some cs=>(h.get b).cells=cs∧(h.get b).es=0∧(h.get b).st=0
  |_,_=>False
 | .aU es n zero parts=>match v,cZ zero parts with
  | .sl b 0 k,some cs=>k=n∧n * es≤16777216∧cs.length=n * es∧(h.get b).cells=cs∧(h.get b).es=es∧(h.get b).st=0
  |_,_=>False
 | .iw es bytes zero n c=>match v,n,c with
  | .sl b 0 k,.int .i64 n,.int .i64 c=>0≤n∧n=c∧n * bytes≤70368744177664∧k=n.toNat∧(h.get b).cells=(List.replicate n.toNat zero).flatten∧(h.get b).es=es∧(h.get b).st=0
  |_,_,_=>False
 |o=>o.go P h fun v' h'=>v'=v∧h'=h
inductive Prog where
 |leaf (tag:Nat) (vs:List AV)
 |fin (rs:List RV)
 |op (o:AOp) (k:AV→Prog)
 |gop (c:AV) (want:Bool) (o:AOp) (k:AV→Prog)
 |ite (c:AV) (p q:Prog)
 |scope (p:Prog) (kn:List AV→Prog) (ka:Nat→List AV→Prog)
 |loop (init:List AV) (body:List AV→Prog) (ka:Nat→List AV→Prog)
 |chk (o:AOp) (v:AV) (p:Prog)
 |kC (c:AV) (want:Bool) (o:AOp) (v:AV) (p:Prog)
 |bad
def Prog.awp (P:Program):Prog→AH→(Nat→List AV→AH→Prop)→Prop
 | .leaf tag vs,h,Q=>Q tag vs h
 | .fin rs,h,Q=>match pF h rs with
  |some vs=>Q 1 [retv vs] h
  |none=>False
 | .op o k,h,Q=>o.go P h fun v h'=>(k v).awp P h' Q
 | .gop c want o k,h,Q=>match c with
  | .bool b=>if b=want then o.go P h fun v h'=>(k v).awp P h' Q else(k (.tup [])).awp P h Q
  | .tup []=>(k (.tup [])).awp P h Q
  |_=>False
 | .ite c p q,h,Q=>match c with
  | .bool b=>if b=true then p.awp P h Q else q.awp P h Q
  |_=>False
 | .scope p kn ka,h,Q=>p.awp P h fun tag vs h'=>if tag=0 then(kn vs).awp P h' Q else(ka tag vs).awp P h' Q
 | .loop init body ka,h,Q=>∃ (I:List AV→AH→Prop) (μ:List AV→AH→Nat),I init h∧∀ vs h1,I vs h1→
   (body vs).awp P h1 fun tag vs' h'=>if tag=0 then I vs' h'∧μ vs' h' < μ vs h1 else(ka tag vs').awp P h' Q
 | .chk o v p,h,Q=>o.still P v h∧p.awp P h Q
 | .kC c want o v p,h,Q=>(match c with
  | .bool b=>if b=want then o.still P v h else True
  | .tup []=>True
  |_=>False)∧p.awp P h Q
 | .bad,_,_=>False
theorem Prog.yE {P:Program} (p:Prog):∀ {h:AH} {Q Q':Nat→List AV→AH→Prop},p.awp P h Q→(∀ t vs h',Q t vs h'→Q' t vs h')→p.awp P h Q':=by
 induction p with
 |leaf tag vs=>intro h Q Q' g hq;exact hq _ _ _ g
 |fin rs=>
  intro h Q Q' g hq
  simp only[Prog.awp] at g ⊢
  cases hr:pF h rs with
  |none=>rw[hr] at g;exact g.elim
  |some vs=>rw[hr] at g;exact hq _ _ _ g
 |op o k ih=>intro h Q Q' g hq;exact AOp.XM g fun v h' g'=>ih v g' hq
 |gop c want o k ih=>
  intro h Q Q' g hq
  cases c with
  |bool b=>
   simp only[Prog.awp] at g ⊢
   split at g
   ·rename_i e;rw[if_pos e];exact AOp.XM g fun v h' g'=>ih v g' hq
   ·rename_i e;rw[if_neg e];exact ih _ g hq
  |tup vs=>
   cases vs with
   |nil=>exact ih _ g hq
   |cons x xs=>exact g.elim
  |_=>exact g.elim
 |ite c p q ihp ihq=>
  intro h Q Q' g hq
  cases c with
  |bool b=>
   simp only[Prog.awp] at g ⊢
   split at g
   ·rename_i e;rw[if_pos e];exact ihp g hq
   ·rename_i e;rw[if_neg e];exact ihq g hq
  |_=>exact g.elim
 |scope p kn ka ihp ihn iha=>
  intro h Q Q' g hq
  refine ihp g fun t vs h' g'=>?_
  split
  ·rename_i ht;rw[if_pos ht] at g';exact ihn vs g' hq
  ·rename_i ht;rw[if_neg ht] at g';exact iha t vs g' hq
 |loop init body ka ihb iha=>
  intro h Q Q' g hq
  obtain⟨I,μ,h0,hr⟩:=g
  refine⟨I,μ,h0,fun vs h1 hi=>ihb vs (hr vs h1 hi) fun t vs' h' g'=>?_⟩
  split
  ·rename_i ht;rw[if_pos ht] at g';exact g'
  ·rename_i ht;rw[if_neg ht] at g';exact iha t vs' g' hq
 |chk o v p ih=>intro h Q Q' g hq;exact⟨g.1,ih g.2 hq⟩
 |kC c want o v p ih=>intro h Q Q' g hq;exact⟨g.1,ih g.2 hq⟩
 |bad=>intro h Q Q' g hq;exact g
end Go.Ab
end
section
namespace Go.Ab
open Go.RowKit
variable{B:Nat} {w0 w w':World} {m:BM} {h:AH} {P:Program}
def yO:Value→AV
 | .int k n=>.int k n
 | .bool b=>.bool b
 | .string s=>.str s
 | .slice none 0 0=>.aC
 | .pointer none=>.zB
 |_=>.un
def M9 (v:Value):AV:=
 match v with
 | .agg cs=>if cs.toList.all (·.oneCell')=true then .agg (cs.toList.map yO) else .un
 | .tuple vs=>if vs.toList.length=0 then .tup [] else .un
 |v=>yO v
theorem qy (v:Value):aG m .un v:=by simp only[aG]
theorem UF (v:Value):aG m (yO v) v:=by
 unfold yO
 split<;>simp only[aG]
theorem VB (l:List Value):aI m (l.map yO) l:=by
 induction l with
 |nil=>exact aI.nil
 |cons v l ih=>exact aI.cons (UF v) ih
theorem U6 (v:Value):aG m (M9 v) v:=by
 unfold M9
 split
 ·split
  ·rename_i cs hc
   simp only[aG]
   exact⟨cs.toList,VB _,fun x hx=>List.all_eq_true.1 hc x hx,by simp⟩
  ·exact qy _
 ·split
  ·rename_i vs hv
   simp only[aG]
   refine⟨[],aI.nil,?_⟩
   have:vs.toList=[]:=List.length_eq_zero_iff.1 hv
   congr 1
   exact Array.toList_inj.1 this
  ·exact qy _
 ·exact UF _
def lJ (P:Program) (t:TypeId):Option (List AV):=
 match P.info? t with
 |some i=>match i.zero with
  |some v=>if v.cells.toList.all (·.oneCell')=true∧v.cells.toList.length=i.size then some (v.cells.toList.map yO) else none
  |none=>none
 |none=>none
theorem oO {t:TypeId} {cs:List AV} (hz:lJ P t=some cs):∃ i v,P.info? t=some i∧i.zero=some v∧aI m cs v.cells.toList∧(∀ x∈v.cells.toList,x.oneCell'=true)∧cs.length=i.size∧v.cells.size=i.size:=by
 unfold lJ at hz
 split at hz
 ·rename_i i hi
  split at hz
  ·rename_i v hv
   split at hz
   ·rename_i hc
    cases hz
    exact⟨i,v,hi,hv,VB _,fun x hx=>List.all_eq_true.1 hc.1 x hx,by simpa using hc.2,by simpa using hc.2⟩
   ·cases hz
  ·cases hz
 ·cases hz
theorem Gd {a:AV} {v:Value} (r:aG m a v) {cs:List AV} (hc:a.cells? =some cs):
  aI m cs v.cells.toList∧∀ x∈v.cells.toList,x.oneCell'=true:=by
 cases a<;>simp only[AV.cells?,Option.some.injEq,reduceCtorEq] at hc<;>subst hc<;>simp only[aG] at r
 case agg vs=>
  obtain⟨l,hl,h1,rfl⟩:=r
  exact⟨by simpa[Value.cells] using hl,by simpa[Value.cells] using h1⟩
 case int=>subst r;exact⟨aI.cons (by simp only[aG]) aI.nil,by simp[Value.cells,Value.oneCell']⟩
 case bool=>subst r;exact⟨aI.cons (by simp only[aG]) aI.nil,by simp[Value.cells,Value.oneCell']⟩
 case str=>subst r;exact⟨aI.cons (by simp only[aG]) aI.nil,by simp[Value.cells,Value.oneCell']⟩
 case zB=>subst r;exact⟨aI.cons (by simp only[aG]) aI.nil,by simp[Value.cells,Value.oneCell']⟩
 case aC=>subst r;exact⟨aI.cons (by simp only[aG]) aI.nil,by simp[Value.cells,Value.oneCell']⟩
 case ptr=>obtain⟨p,hp,rfl⟩:=r;exact⟨aI.cons (by simp only[aG];exact⟨p,hp,rfl⟩) aI.nil,by simp[Value.cells,Value.oneCell']⟩
 case sl=>obtain⟨p,a,dh,hp,rfl,hr⟩:=r;exact⟨aI.cons (by simp only[aG];exact⟨p,a,dh,hp,rfl,hr⟩) aI.nil,by simp[Value.cells,Value.oneCell']⟩
 case fn=>obtain⟨l,hl,rfl⟩:=r;exact⟨aI.cons (by simp only[aG];exact⟨l,hl,rfl⟩) aI.nil,by simp[Value.cells,Value.oneCell']⟩
theorem addr_add (b o n:Nat):(⟨b,o,none⟩:Addr).add n=⟨b,o+n,none⟩:=by
 unfold Addr.add;split
 ·subst_vars;rfl
 ·rfl
theorem Sim.read (s:Sim B w0 m h w) {b:Nat} {p:Pl} (hp:m b=some p) (hl:live h b) {off n:Nat} (hn:off+n≤(h.get b).cells.length):
  ∃ l:List Value,aI m (((h.get b).cells.drop off).take n) l∧(∀ x∈l,x.oneCell'=true)∧l.length=n∧
   ∀ (j:Nat) (v:Value),l[j]? =some v→w.cell? ((⟨p.rb,p.ro+off,none⟩:Addr).add j)=some v:=by
 have hb:=s.blk b p hp hl
 induction n generalizing off with
 |zero=>exact⟨[],by simpa using aI.nil,by simp,rfl,by simp⟩
 |succ n ih=>
  have hlt:off < (h.get b).cells.length:=by omega
  obtain⟨v,h1,h2,h3⟩:=hb.2 off _ (List.getElem?_eq_getElem hlt)
  obtain⟨l,g1,g2,g3,g4⟩:=ih (off:=off+1) (by omega)
  refine⟨v::l,?_,?_,by simp[g3],?_⟩
  ·rw[List.drop_eq_getElem_cons hlt,List.take_succ_cons]
   exact aI.cons h2 g1
  ·intro x hx
   rcases List.mem_cons.1 hx with rfl|hx
   ·exact h3
   ·exact g2 x hx
  ·intro j u hu
   cases j with
   |zero=>simp at hu;subst hu;rw[addr_add];exact h1
   |succ j=>
    have:=g4 j u (by simpa using hu)
    rw[addr_add] at this ⊢
    rw[show p.ro+off+(j+1)=p.ro+(off+1)+j by omega]
    exact this
def Res (n:Nat) (B:Nat) (w0:World) (m:BM) (K:AV→AH→Prop) (r:Result Value):Prop:=
 ∃ v w' a m' h',r= .ok v w'∧Grow n m h'.n m'∧Sim B w0 m' h' w'∧aG m' a v∧K a h'
theorem Res.same (s:Sim B w0 m h w) {K:AV→AH→Prop} {a:AV} {v:Value} (r:aG m a v) (k:K a h):Res h.n B w0 m K (.ok v w):=
 ⟨v,w,a,m,h,rfl,Grow.refl _ _,s,r,k⟩
theorem Res.of_run (s:Sim B w0 m h w) {K:AV→AH→Prop} {a:AV} {r:Result Value} (e:∃ v,r= .ok v w∧aG m a v) (k:K a h):Res h.n B w0 m K r:=by
 obtain⟨v,rfl,hv⟩:=e
 exact Res.same s hv k
theorem foldl_set (off:Nat):∀ (xs:List Value) (k:Nat) (cells:Array Value),off+k+xs.length≤cells.size→
  ((xs.zipIdx k).foldl (fun cs (x:Value × Nat)=>cs.setIfInBounds (off+x.2) x.1) cells).toList=cells.toList.take (off+k)++xs++cells.toList.drop (off+k+xs.length)
 |[],k,cells,_=>by simp
 |x::xs,k,cells,hk=>by
  simp only[List.length_cons] at hk
  simp only[List.zipIdx_cons,List.foldl_cons]
  rw[foldl_set off xs (k+1) (cells.setIfInBounds (off+k) x) (by simp;omega)]
  simp only[Array.toList_setIfInBounds,List.length_cons]
  apply List.ext_getElem?
  intro i
  simp only[List.getElem?_append,List.getElem?_take,List.getElem?_drop,List.getElem?_set,List.length_take,List.length_append,List.length_set,Array.length_toList,List.getElem?_cons,List.length_cons]
  grind
def Bt (cs:List Value) (off:Nat) (xs:List Value):List Value:=cs.take off++xs++cs.drop (off+xs.length)
theorem aI.splice {cs xs:List AV} {l k:List Value} (h1:aI m cs l) (h2:aI m xs k) (off:Nat):aI m (splice cs off xs) (Bt l off k):=by
 unfold Ab.splice Bt
 rw[show xs.length=k.length from h2.length]
 exact((h1.take off).append h2).append (h1.drop _)
def jX (pl:Nat→Option (Nat × Nat)) (ρ:Operand→AV):List (Nat × Operand)→Option (List (Nat × Nat × AV))
 |[]=>some []
 |(i,x)::rest=>
  match pl i,jX pl ρ rest with
  |some (o,s),some l=>some ((o,s,ρ x)::l)
  |_,_=>none
theorem Gq {ρ:Operand→AV} {a:Act} (hρ:∀ x,aG m (ρ x) (a.eval x)) (pl:Nat→Option (Nat × Nat)):
  ∀ (parts:List (Nat × Operand)) (ap:List (Nat × Nat × AV)) (cs:List AV) (cells:Array Value) (cs':List AV),jX pl ρ parts=some ap→aI m cs cells.toList→(∀ x∈cells.toList,x.oneCell'=true)→cZ cs ap=some cs'→
   ∃ cells',Instr.fill pl cells (parts.map fun x=>(x.1,a.eval x.2))=some cells'∧aI m cs' cells'.toList∧(∀ x∈cells'.toList,x.oneCell'=true)
 |[],ap,cs,cells,cs',h1,h2,h3,h4=>by
  simp only[jX,Option.some.injEq] at h1;subst h1
  simp only[cZ,Option.some.injEq] at h4;subst h4
  exact⟨cells,rfl,h2,h3⟩
 |(i,x)::rest,ap,cs,cells,cs',h1,h2,h3,h4=>by
  simp only[jX] at h1
  split at h1
  ·rename_i o sz l hpl hrest
   cases h1
   simp only[cZ] at h4
   split at h4
   ·rename_i xs hxs
    split at h4
    ·rename_i hc
     obtain⟨r1,r2⟩:=Gd (hρ x) hxs
     have hlen:xs.length=(a.eval x).cells.size:=by simpa using r1.length
     have hcl:cs.length=cells.size:=by simpa using h2.length
     have amT:=foldl_set o (a.eval x).cells.toList 0 cells (by simp;omega)
     have hz:((a.eval x).cells.zipIdx.foldl (fun cs (c:Value × Nat)=>cs.setIfInBounds (o+c.2) c.1) cells).toList=Bt cells.toList o (a.eval x).cells.toList:=by
      rw[←Array.foldl_toList,Array.toList_zipIdx]
      simpa[Bt] using amT
     obtain⟨cells',g1,g2,g3⟩:=Gq hρ pl rest l _ ((a.eval x).cells.zipIdx.foldl (fun cs (c:Value × Nat)=>cs.setIfInBounds (o+c.2) c.1) cells) cs' hrest
      (by rw[hz];exact h2.splice r1 o) (by
       rw[hz];intro y hy
       simp only[Bt,List.append_assoc,List.mem_append] at hy
       rcases hy with hy|hy|hy
       ·exact h3 y (List.mem_of_mem_take hy)
       ·exact r2 y hy
       ·exact h3 y (List.mem_of_mem_drop hy)) h4
     refine⟨cells',?_,g2,g3⟩
     simp only[List.map_cons,Instr.fill,hpl]
     rw[if_neg (by simp;omega)]
     exact g1
    ·cases h4
   ·cases h4
  ·cases h1
end Go.Ab
end
section
namespace Go.Ab
open Go.RowKit
variable{B:Nat} {w0 w w':World} {m:BM} {h:AH} {P:Program} {K:AV→AH→Prop}
theorem Wv {t:TypeId} {i:TypeInfo} (hi:P.info? t=some i):(typeInfo t).run P w= .ok i w:=by simp[typeInfo,hi]
theorem jN {t:TypeId} {i:TypeInfo} (hi:P.info? t=some i):(sizeOf t).run P w= .ok i.size w:=by simp[sizeOf,typeInfo,hi]
theorem vJ {t:TypeId} {i:TypeInfo} {v:Value} (hi:P.info? t=some i) (hz:i.zero=some v):(zeroValue t).run P w= .ok v w:=by simp[zeroValue,typeInfo,hi,hz]
def qJ:TypeDesc→Bool
 | .struct _| .array _ _=>false
 |_=>true
theorem Bg {t:TypeId} {d:TypeDesc} (hu:P.underlying t=some d) (hd:qJ d=true):(isAgg t).run P w= .ok false w:=by
 cases d<;>first|(simp[qJ] at hd;done)|simp[isAgg,run_underlying hu]
theorem vC (s:Sim B w0 m h w) {es:Nat} {cs:List AV} {c:Array Value} (e:TypeId) (R:Nat) (hR:es≠0→cs.length≤R) (hsz:max cs.length R≤c.size) {l:List Value} (hl:aI m cs l)
  (hc:∀ (i:Nat) (v:Value),l[i]? =some v→c[i]? =some v) (h1:∀ x∈l,x.oneCell'=true):
  Grow h.n m (h.n+1) (m.add h.n ⟨w.heap.size,0,R,es⟩)∧Sim B w0 (m.add h.n ⟨w.heap.size,0,R,es⟩) (h.push ⟨cs,es,0⟩) (w.alloc (.cells c e)):=
 s.make ⟨cs,es,0⟩ R c e rfl hR hsz fun i v hv=>by
  obtain⟨v',g1,g2⟩:=hl.get i v hv
  exact⟨v',hc i v' g1,g2,h1 v' (List.mem_of_getElem? g1)⟩
theorem Wj (m:BM) (n:Nat) (p:Pl) (off:Nat):aG (m.add n p) (.ptr n off) (.pointer (some ⟨p.rb,p.ro+off,none⟩)):=by
 simp only[aG];exact⟨p,by simp[BM.add],rfl⟩
theorem ajR (s:Sim B w0 m h w) {t:TypeId} {cs:List AV} (hz:lJ P t=some cs) (g:(AOp.alloc cs).go P h K):
  Res h.n B w0 m K ((Instr.alloc t true (.tuple #[])).run P w):=by
 obtain⟨i,v,hi,hv,hr,h1,hl,hs⟩:=oO hz
 obtain⟨g1,g2⟩:=vC s (es:=0) (c:=v.cells) t 0 (fun e=>absurd rfl e) (by rw[hl,hs];simp) hr (fun i v hv=>by simpa using hv) h1
 refine⟨.pointer (some ⟨w.heap.size,0,none⟩),w.alloc (.cells v.cells t),.ptr h.n 0,_,_,?_,g1,g2,Wj _ _ _ _,g⟩
 simp[Instr.alloc,vJ hi hv,newVar,newRow]
theorem ak2 (s:Sim B w0 m h w) {t:TypeId} {a:AV} {v:Value} (r:aG m a v) (g:(AOp.box a).go P h K):
  Res h.n B w0 m K ((Instr.box t v).run P w):=by
 simp only[AOp.go] at g
 split at g
 ·rename_i cs hc
  obtain⟨hr,h1⟩:=Gd r hc
  obtain⟨g1,g2⟩:=vC s (es:=0) (c:=v.cells) t 0 (fun e=>absurd rfl e) (by rw[hr.length];simp) hr (fun i v hv=>by simpa using hv) h1
  refine⟨.pointer (some ⟨w.heap.size,0,none⟩),w.alloc (.cells v.cells t),.ptr h.n 0,_,_,?_,g1,g2,Wj _ _ _ _,g⟩
  simp[Instr.box,newVar,newRow]
 ·exact g.elim
theorem akX (s:Sim B w0 m h w) {t:TypeId} {d:TypeDesc} (hu:P.underlying t=some d) (hd:qJ d=true) {a:AV} {v:Value} (r:aG m a v) (g:(AOp.ld1 a).go P h K):
  Res h.n B w0 m K ((Instr.loadAt t v).run P w):=by
 simp only[AOp.go] at g
 split at g
 ·rename_i b o
  split at g
  ·rename_i x hx
   obtain⟨hl,k⟩:=g
   simp only[aG] at r
   obtain⟨p,hp,rfl⟩:=r
   obtain⟨v',h1,h2,h3⟩:=(s.blk b p hp hl).2 o x hx
   have:(Instr.loadAt t (.pointer (some ⟨p.rb,p.ro+o,none⟩))).run P w= .ok v' w:=by
    simp[Instr.loadAt,Instr.sureAddr,loadVar,Bg hu hd,h1]
   rw[this]
   exact Res.same s h2 k
  ·exact g.elim
 ·exact g.elim
theorem akW (s:Sim B w0 m h w) {t:TypeId} {fs:Array Field} {i:TypeInfo} (hu:P.underlying t=some (.struct fs)) (hi:P.info? t=some i) {a:AV} {v:Value} (r:aG m a v) (g:(AOp.ldn i.size a).go P h K):
  Res h.n B w0 m K ((Instr.loadAt t v).run P w):=by
 simp only[AOp.go] at g
 split at g
 ·rename_i b o
  obtain⟨hl,hn,k⟩:=g
  simp only[aG] at r
  obtain⟨p,hp,rfl⟩:=r
  obtain⟨l,h1,h2,h3,h4⟩:=s.read hp hl hn
  have hrun:=run_loadCells_list (P:=P) w (⟨p.rb,p.ro+o,none⟩:Addr) l h4
  rw[h3] at hrun
  have:(Instr.loadAt t (.pointer (some ⟨p.rb,p.ro+o,none⟩))).run P w= .ok (.agg l.toArray) w:=by
   simp[Instr.loadAt,Instr.sureAddr,loadVar,isAgg,run_underlying hu,jN hi,hrun]
  rw[this]
  exact Res.same s (by simp only[aG];exact⟨l,h1,h2,rfl⟩) k
 ·exact g.elim
theorem EO (cs:List AV) (off:Nat) (xs:List AV) (hh:off+xs.length≤cs.length):(splice cs off xs).length=cs.length:=by
 simp[splice];omega
theorem Sim.put (s:Sim B w0 m h w) {b:Nat} {p:Pl} (hp:m b=some p) (hst:mine h b) {off:Nat} {xs:List AV} {l:List Value} (hl:aI m xs l) (h1:∀ x∈l,x.oneCell'=true) (hn:off+xs.length≤(h.get b).cells.length):
  ∃ w',(storeCells ⟨p.rb,p.ro+off,none⟩ l).run P w= .ok () w'∧Sim B w0 m (h.upd b {h.get b with cells:=splice (h.get b).cells off xs}) w':=by
 obtain⟨ho,ho2,c,e,hc,hsz⟩:=s.own b p hp hst
 have hlen:=hl.length
 have hext:(h.get b).cells.length≤Ab.ext (h.get b) p:=by unfold Ab.ext;omega
 have hrun:=run_storeCells_at P p.rb (p.ro+off) e l 0 c w hc (by omega) h1
 refine⟨_,hrun,?_⟩
 simp only[Nat.add_zero]
 refine s.write hp hst hc ?_ _ (EO _ _ _ hn) ?_ ?_
 ·simp;omega
 ·intro i v hv
  have hi:i < (h.get b).cells.length:=by
   have:=(List.getElem?_eq_some_iff.1 hv).1
   rwa [EO _ _ _ hn] at this
  by_cases hin:off≤i∧i < off+xs.length
  ·have hx:xs[i - off]? =some v:=by
    rw[←hv];unfold splice
    simp only[List.getElem?_append,List.length_append,List.length_take]
    grind
   obtain⟨v',g1,g2⟩:=hl.get _ _ hx
   refine⟨v',?_,g2,h1 v' (List.mem_of_getElem? g1)⟩
   rw[←g1]
   simp only[List.getElem?_toArray,List.getElem?_append,List.length_append,List.length_take,Array.length_toList]
   grind
  ·have hx:(h.get b).cells[i]? =some v:=by
    rw[←hv];unfold splice
    simp only[List.getElem?_append,List.length_append,List.length_take,List.getElem?_take,List.getElem?_drop]
    grind
   obtain⟨v',g1,g2,g3⟩:=(s.blk b p hp (by unfold mine at hst;omega)).2 i v hx
   refine⟨v',?_,g2,g3⟩
   have g1':c[p.ro+i]? =some v':=by
    unfold World.cell? at g1
    rw[show w.heap[(⟨p.rb,p.ro+i,none⟩:Addr).block]? =_ from hc] at g1
    simpa using g1
   rw[←g1']
   simp only[List.getElem?_toArray,List.getElem?_append,List.length_append,List.length_take,List.getElem?_take,List.getElem?_drop,Array.length_toList,Array.getElem?_toList]
   grind
 ·intro j hj
  simp only[List.getElem?_toArray,List.getElem?_append,List.length_append,List.length_take,List.getElem?_take,List.getElem?_drop,Array.length_toList,Array.getElem?_toList]
  grind
theorem alS (s:Sim B w0 m h w) {t:TypeId} {i:TypeInfo} (hi:P.info? t=some i) {a x:AV} {va vx:Value} (ra:aG m a va) (rx:aG m x vx) (g:(AOp.st i.size a x).go P h K):
  ∃ w' h',(Instr.storeAt t va vx).run P w= .ok () w'∧Grow h.n m h'.n m∧Sim B w0 m h' w'∧K (.tup []) h':=by
 simp only[AOp.go] at g
 split at g
 ·rename_i b o xs hxs
  obtain⟨hm,hl,hn,k⟩:=g
  simp only[aG] at ra
  obtain⟨p,hp,rfl⟩:=ra
  obtain⟨hr,h1⟩:=Gd rx hxs
  obtain⟨w',g1,g2⟩:=s.put (P:=P) hp hm (off:=o) hr h1 (by omega)
  refine⟨w',_,?_,?_,g2,k⟩
  rotate_left
  ·exact Grow.refl _ _
  have hsz:vx.cells.size=i.size:=by have:=hr.length;simp at this;omega
  simp[Instr.storeAt,Instr.sureAddr,storeVar,jN hi,hsz,g1]
 ·exact g.elim
theorem akZ (s:Sim B w0 m h w) {t:TypeId} {fs:Array Field} {f:Nat} {fd:Field} {i:TypeInfo} (hu:P.underlying t=some (.struct fs)) (hf:fs[f]? =some fd) (hi:P.info? fd.type=some i) (hs:i.size≠0) {a:AV} {v:Value} (r:aG m a v) (g:(AOp.fad fd.offset a).go P h K):
  Res h.n B w0 m K ((Instr.fieldAt t v f).run P w):=by
 simp only[AOp.go] at g
 split at g
 ·rename_i b o
  simp only[aG] at r
  obtain⟨p,hp,rfl⟩:=r
  have:(Instr.fieldAt t (.pointer (some ⟨p.rb,p.ro+o,none⟩)) f).run P w= .ok (.pointer (some ⟨p.rb,p.ro+o+fd.offset,none⟩)) w:=by
   simp[Instr.fieldAt,run_underlying hu,hf,Instr.sureAddr,fieldPlace,jN hi,hs,addr_add]
  rw[this]
  exact Res.same s (by simp only[aG];exact⟨p,hp,by rw[Nat.add_assoc]⟩) g
 ·exact g.elim
theorem akq (s:Sim B w0 m h w) {t:TypeId} {fs:Array Field} {f:Nat} {fd:Field} {d:TypeDesc} (hu:P.underlying t=some (.struct fs)) (hf:fs[f]? =some fd) (hd:P.underlying fd.type=some d) (hn:qJ d=true) {a:AV} {v:Value} (r:aG m a v) (g:(AOp.zD fd.offset a).go P h K):
  Res h.n B w0 m K ((Instr.field t v f).run P w):=by
 simp only[AOp.go] at g
 split at g
 ·rename_i vs
  split at g
  ·rename_i x hx
   simp only[aG] at r
   obtain⟨l,hl,h1,rfl⟩:=r
   obtain⟨v',g1,g2⟩:=hl.get _ _ hx
   have:(Instr.field t (.agg l.toArray) f).run P w= .ok v' w:=by
    simp[Instr.field,run_underlying hu,hf,asAgg,part,Bg hd hn,g1]
   rw[this]
   exact Res.same s g2 g
  ·exact g.elim
 ·exact g.elim
theorem akp (s:Sim B w0 m h w) {t:TypeId} {fs:Array Field} {f:Nat} {fd:Field} {fs':Array Field} {i:TypeInfo} (hu:P.underlying t=some (.struct fs)) (hf:fs[f]? =some fd) (hd:P.underlying fd.type=some (.struct fs')) (hi:P.info? fd.type=some i) {a:AV} {v:Value} (r:aG m a v) (g:(AOp.Oa fd.offset i.size a).go P h K):
  Res h.n B w0 m K ((Instr.field t v f).run P w):=by
 simp only[AOp.go] at g
 split at g
 ·rename_i vs
  obtain⟨hn,k⟩:=g
  simp only[aG] at r
  obtain⟨l,hl,h1,rfl⟩:=r
  have:(Instr.field t (.agg l.toArray) f).run P w= .ok (.agg ((l.drop fd.offset).take i.size).toArray) w:=by
   simp[Instr.field,run_underlying hu,hf,asAgg,part,isAgg,run_underlying hd,jN hi,List.extract_toArray,List.extract_eq_take_drop]
  rw[this]
  refine Res.same s ?_ k
  simp only[aG]
  exact⟨_,(hl.drop _).take _,fun x hx=>h1 x (List.mem_of_mem_drop (List.mem_of_mem_take hx)),rfl⟩
 ·exact g.elim
theorem akY (s:Sim B w0 m h w) {t e:TypeId} {i:TypeInfo} (hu:P.underlying t=some (.slice e)) (hi:P.info? e=some i) {x y:AV} {vx vy:Value} (rx:aG m x vx) (ry:aG m y vy) (g:(AOp.idx i.size x y).go P h K):
  Res h.n B w0 m K ((Instr.indexAt t vx vy).run P w):=by
 simp only[AOp.go] at g
 split at g
 ·rename_i b off ln k n
  obtain⟨h0,h1,kk⟩:=g
  simp only[aG] at rx ry
  obtain⟨p,a,dh,hp,rfl,hle,hR,ha⟩:=rx
  subst ry
  have ha':a=⟨p.rb,p.ro+off,none⟩:=by
   rcases ha with ha|ha
   ·omega
   ·exact ha
  subst ha'
  have:(Instr.indexAt t (.slice (some ⟨p.rb,p.ro+off,none⟩) ln dh) (.int k n)).run P w= .ok (.pointer (some ⟨p.rb,p.ro+off+n.toNat * i.size,none⟩)) w:=by
   simp[Instr.indexAt,asIntOf,run_underlying hu,h0,h1,jN hi,addr_add]
  rw[this]
  exact Res.same s (by simp only[aG];exact⟨p,hp,by rw[Nat.add_assoc]⟩) kk
 ·exact g.elim
theorem ajQ (s:Sim B w0 m h w) {t:TypeId} {fs:Array Field} (hu:P.underlying t=some (.struct fs)) {z:List AV} (hz:lJ P t=some z) {pls:List (Nat × Nat)}
  (hp:fs.toList.mapM (fun f=>(P.info? f.type).map fun i=>(f.offset,i.size))=some pls) {ρ:Operand→AV} {a:Act} (hρ:∀ x,aG m (ρ x) (a.eval x)) {parts:Array (Nat × Operand)} {ap:List (Nat × Nat × AV)}
  (hap:jX (pls.toArray[·]?) ρ parts.toList=some ap) (g:(AOp.build z ap).go P h K):
  Res h.n B w0 m K ((Instr.build t (parts.map fun x=>(x.1,a.eval x.2))).run P w):=by
 simp only[AOp.go] at g
 split at g
 ·rename_i cs hcs
  obtain⟨i,v,hi,hv,hr,h1,hl,hs⟩:=oO hz
  obtain⟨cells',g1,g2,g3⟩:=Gq hρ _ parts.toList ap z v.cells cs hap hr h1 hcs
  have:=run_build (P:=P) w t (parts.map fun x=>(x.1,a.eval x.2)) cells' (by
   unfold Program.built
   simp only[hi,hu,hv,hp]
   simpa using g1)
  rw[this]
  exact Res.same s (by simp only[aG];exact⟨cells'.toList,g2,g3,by simp⟩) g
 ·exact g.elim
end Go.Ab
end
section
namespace Go.Ab
open Go.RowKit
variable{B:Nat} {w0 w w':World} {m:BM} {h:AH} {P:Program} {K:AV→AH→Prop}
theorem XJ (a b:Int):(a == b)=decide (a=b):=by by_cases e:a=b<;>simp[e]
theorem Yl (a:ByteArray):a.toList=a.data.toList:=ByteArray.toList_eq a
theorem akT (a b:ByteArray):(a.toList == b.toList)=decide (a=b):=by
 rw[Yl,Yl]
 by_cases e:a=b
 ·subst e;simp
 ·have: ¬ a.data.toList=b.data.toList:=fun h=>e (ByteArray.ext (Array.toList_inj.1 h))
  rw[beq_eq_false_iff_ne.2 this];simp[e]
theorem akj (a b:ByteArray):(a == b)=decide (a=b):=by
 cases a with|mk x=>cases b with|mk y=>
 show(x == y)=_
 by_cases e:x=y<;>simp[e]
theorem aif {t:TypeId} (hu:P.underlying t=some .bool) (d:Nat) (a b:Bool):(Op.equalIn (d+1) t (.bool a) (.bool b)).run P w= .ok (a == b) w:=by
 simp[Op.equalIn,run_underlying hu]
theorem aiS {op:BinOp} {t:TypeId} {k k':IntKind} {a b:Int} {v:AV} (hv:fJ op (.int k a) (.int k' b)=some v):
  ∃ u,(binOp op t (.int k a) (.int k' b)).run P w= .ok u w∧aG m v u:=by
 simp only[fJ] at hv
 cases op
 case shl=>
  simp only at hv
  split at hv
  ·cases hv
  ·rename_i hb
   simp only[Option.some.injEq] at hv;subst hv
   exact⟨_,by simp only[binOp,Op.shift,if_neg hb];rfl,by simp only[aG]⟩
 case shr=>
  simp only at hv
  split at hv
  ·cases hv
  ·rename_i hb
   simp only[Option.some.injEq] at hv;subst hv
   exact⟨_,by simp only[binOp,Op.shift,if_neg hb];rfl,by simp only[aG]⟩
 case andNot=>simp only[reduceCtorEq] at hv
 case quo=>
  simp only at hv
  split at hv
  ·rename_i hb;obtain⟨rfl,hb⟩:=hb
   simp only[Option.some.injEq] at hv;subst hv
   exact⟨_,by simp only[binOp,ne_eq,not_true_eq_false,if_false,Op.intDiv,if_neg hb];rfl,by simp only[aG]⟩
  ·cases hv
 case rem=>
  simp only at hv
  split at hv
  ·rename_i hb;obtain⟨rfl,hb⟩:=hb
   simp only[Option.some.injEq] at hv;subst hv
   exact⟨_,by simp only[binOp,ne_eq,not_true_eq_false,if_false,Op.intDiv,if_neg hb];rfl,by simp only[aG]⟩
  ·cases hv
 all_goals
  simp only at hv
  split at hv
  ·rename_i hb;subst hb
   simp only[Option.some.injEq] at hv;subst hv
   refine⟨_,by simp only[binOp,ne_eq,not_true_eq_false,if_false,Op.intArith,Op.intBits,Op.intCmp];rfl,?_⟩
   simp[aG,XJ,bne]
  ·cases hv
theorem aiR {op:BinOp} {t:TypeId} {a b:ByteArray} {v:AV} (hv:fJ op (.str a) (.str b)=some v):
  ∃ u,(binOp op t (.string a) (.string b)).run P w= .ok u w∧aG m v u:=by
 simp only[fJ] at hv
 cases op
 case add=>
  simp only at hv
  split at hv
  ·rename_i hb
   simp only[Option.some.injEq] at hv;subst hv
   refine⟨.string (a++b),?_,by simp only[aG]⟩
   have hm:IntKind.i64.max=9223372036854775807:=by decide
   simp only[binOp,Op.stringOp,hm]
   rw[if_neg (by omega)]
   rfl
  ·cases hv
 all_goals
  simp only[Option.some.injEq,reduceCtorEq] at hv
 all_goals
  subst hv
  exact⟨_,by simp only[binOp,Op.stringOp,akT];rfl,by simp only[aG]⟩
theorem aic {op:BinOp} {t:TypeId} {a b:Bool} {v:AV} (hu:P.underlying t=some .bool) (hv:fJ op (.bool a) (.bool b)=some v):
  ∃ u,(binOp op t (.bool a) (.bool b)).run P w= .ok u w∧aG m v u:=by
 have he:(Op.equal t (.bool a) (.bool b)).run P w= .ok (a == b) w:=by
  exact aif hu 9999 a b
 simp only[fJ] at hv
 cases op<;>simp only[Option.some.injEq,reduceCtorEq] at hv
 case eql=>
  subst hv
  exact⟨_,by simp only[binOp,Sem.run_bind,he,Result.andThen_ok];rfl,by simp only[aG]⟩
 case neq=>
  subst hv
  exact⟨_,by simp only[binOp,Sem.run_bind,he,Result.andThen_ok];rfl,by simp only[aG]⟩
theorem ak3 (s:Sim B w0 m h w) {t:TypeId} {d:TypeDesc} {ty:Nat} (hu:P.underlying t=some d) (hd:ty=2→d= .bool) {op:BinOp} {x y:AV} {vx vy:Value} (rx:aG m x vx) (ry:aG m y vy) (g:(AOp.bin ty op x y).go P h K):
  Res h.n B w0 m K ((binOp op t vx vy).run P w):=by
 simp only[AOp.go] at g
 split at g
 ·rename_i hok
  split at g
  ·rename_i v hv
   refine Res.of_run s ?_ g
   unfold fQ at hok
   split at hok
   ·simp only[aG] at rx ry
    subst rx;subst ry
    exact aiS hv
   ·simp only[aG] at rx ry
    subst rx;subst ry
    exact aiR hv
   ·have hdd:=hd rfl
    subst hdd
    simp only[aG] at rx ry
    subst rx;subst ry
    exact aic hu hv
   ·cases hok
  ·exact g.elim
 ·exact g.elim
theorem akU (s:Sim B w0 m h w) {op:UnOp} {x:AV} {vx:Value} (rx:aG m x vx) (g:(AOp.una op x).go P h K):
  Res h.n B w0 m K ((Op.unary op vx).run P w):=by
 simp only[AOp.go] at g
 split at g
 ·rename_i v hv
  refine Res.of_run s ?_ g
  cases x<;>simp only[Zw,reduceCtorEq] at hv
  ·simp only[aG] at rx;subst rx
   cases op<;>simp only[Option.some.injEq,reduceCtorEq] at hv
   subst hv
   exact⟨_,by simp only[Op.unary,Op.intArith];rfl,by simp only[aG]⟩
  ·simp only[aG] at rx;subst rx
   cases op<;>simp only[Option.some.injEq,reduceCtorEq] at hv
   subst hv
   exact⟨_,by simp only[Op.unary];rfl,by simp only[aG]⟩
 ·exact g.elim
theorem akr (s:Sim B w0 m h w) {src dst:TypeId} {d:TypeDesc} {k:IntKind} (hs:P.underlying src=some d) (hd:P.underlying dst=some (.int k)) {x:AV} {vx:Value} (rx:aG m x vx) (g:(AOp.conv k x).go P h K):
  Res h.n B w0 m K ((convert src dst vx).run P w):=by
 simp only[AOp.go] at g
 split at g
 ·rename_i k' n
  simp only[aG] at rx;subst rx
  have:(convert src dst (.int k' n)).run P w= .ok (.int k (k.wrap n)) w:=by
   simp[convert,run_underlying hs,run_underlying hd,Conv.intToInt]
  rw[this]
  exact Res.same s (by simp only[aG]) g
 ·exact g.elim
theorem Xn (s:Sim B w0 m h w) {t ty':TypeId} {d:TypeDesc} {ty:Nat} (hu:P.underlying t=some d) (hd:(ty=0→∃ e,d= .slice e)∧(ty=1→d= .string)) {x:AV} {vx:Value} (rx:aG m x vx) (g:(AOp.len ty x).go P h K):
  Res h.n B w0 m K ((Builtin.len_ #[t] ty' #[vx]).run P w):=by
 simp only[AOp.go] at g
 split at g
 ·rename_i hok
  split at g
  ·rename_i n hn
   refine Res.of_run s ?_ g
   unfold yY at hok
   split at hok
   ·obtain⟨e,rfl⟩:=hd.1 rfl
    simp only[aG] at rx
    obtain⟨p,a,dh,hp,rfl,_⟩:=rx
    simp only[mg,Option.some.injEq] at hn;subst hn
    exact Exists.intro _ ⟨by simp[Builtin.len_,run_underlying hu,goInt],yu⟩
   ·obtain⟨e,rfl⟩:=hd.1 rfl
    simp only[aG] at rx;subst rx
    simp only[mg,Option.some.injEq] at hn;subst hn
    exact⟨.int .i64 ((0:Nat):Int),by simp[Builtin.len_,run_underlying hu,goInt],yu⟩
   ·have:=hd.2 rfl;subst this
    simp only[aG] at rx;subst rx
    simp only[mg,Option.some.injEq] at hn;subst hn
    exact Exists.intro _ ⟨by simp[Builtin.len_,run_underlying hu,goInt],yu⟩
   ·cases hok
  ·exact g.elim
 ·exact g.elim
theorem akn (s:Sim B w0 m h w) {t:TypeId} (hu:P.underlying t=some .string) {x y:AV} {vx vy:Value} (rx:aG m x vx) (ry:aG m y vy) (g:(AOp.jR x y).go P h K):
  Res h.n B w0 m K ((Instr.index t vx vy).run P w):=by
 simp only[AOp.go] at g
 split at g
 ·obtain⟨h0,c,hc,k⟩:=g
  simp only[aG] at rx ry
  subst rx;subst ry
  refine Res.of_run s ⟨.int .u8 c.toNat,?_,yu⟩ k
  simp[Instr.index,asIntOf,run_underlying hu,h0,hc]
 ·exact g.elim
theorem ak0 (s:Sim B w0 m h w) {x:AV} {vx:Value} {i:Nat} (rx:aG m x vx) (g:(AOp.ext x i).go P h K):
  Res h.n B w0 m K ((Instr.extract vx i).run P w):=by
 simp only[AOp.go] at g
 split at g
 ·split at g
  ·rename_i v hv
   simp only[aG] at rx
   obtain⟨l,hl,rfl⟩:=rx
   obtain⟨u,h1,h2⟩:=hl.get _ _ hv
   exact Res.of_run s ⟨u,by simp[Instr.extract,h1],h2⟩ g
  ·exact g.elim
 ·exact g.elim
end Go.Ab
end
section
namespace Go.Ab
open Go.RowKit
variable{B:Nat} {w0 w w':World} {m:BM} {h:AH} {P:Program} {K:AV→AH→Prop}
theorem AA (s:Sim B w0 m h w) {es:Nat} {y:AV} {vy:Value} (r:aG m y vy) {new:List AV} (hn:mP h es y=some new) (hl:Ce h y):
  ∃ l:List Value,∃ n:Nat,mg y=some n∧new.length=n * es∧aI m new l∧(∀ x∈l,x.oneCell'=true)∧(Builtin.lenOf vy).run P w= .ok n w∧(Builtin.firstCells es n vy).run P w= .ok l.toArray w:=by
 unfold mP at hn
 split at hn
 ·simp only[Option.some.injEq] at hn;subst hn
  simp only[aG] at r;subst r
  exact⟨[],0,rfl,by simp,aI.nil,by simp,by simp[Builtin.lenOf],by simp[Builtin.firstCells]⟩
 ·rename_i b off len
  split at hn
  ·rename_i hb
   simp only[Option.some.injEq] at hn;subst hn
   simp only[aG] at r
   obtain⟨p,a,dh,hp,rfl,hle,hR,ha⟩:=r
   by_cases h0:len=0
   ·subst h0
    exact⟨[],0,rfl,by simp,by simpa using aI.nil,by simp,by simp[Builtin.lenOf],by simp only[Builtin.firstCells,Nat.zero_mul];rfl⟩
   ·have hlv:live h b:=by
     rcases hl with g|g
     ·exact absurd g h0
     ·exact g
    have ha':a=⟨p.rb,p.ro+off,none⟩:=by
     rcases ha with ha|ha
     ·omega
     ·exact ha
    subst ha'
    obtain⟨l,h1,h2,h3,h4⟩:=s.read hp hlv hb
    have hrun:=run_loadCells_list (P:=P) w (⟨p.rb,p.ro+off,none⟩:Addr) l h4
    rw[h3] at hrun
    exact⟨l,len,rfl,by rw[List.length_take,List.length_drop];omega,h1,h2,by simp[Builtin.lenOf],by simp only[Builtin.firstCells];exact hrun⟩
  ·cases hn
 ·rename_i st
  split at hn
  ·rename_i he
   simp only[Option.some.injEq] at hn;subst hn;subst he
   simp only[aG] at r;subst r
   refine⟨st.data.toList.map fun c=>.int .u8 c.toNat,st.size,rfl,by rw[List.length_map,Nat.mul_one];rfl,?_,?_,by simp[Builtin.lenOf],?_⟩
   ·generalize st.data.toList=l
    induction l with
    |nil=>exact aI.nil
    |cons c l ih=>exact aI.cons yu ih
   ·intro x hx
    obtain⟨c,_,rfl⟩:=List.mem_map.1 hx
    rfl
   ·simp only[Builtin.firstCells,ByteArray.extract_zero_size,Sem.run_pure]
    congr 1
    apply Array.ext'
    simp
  ·cases hn
 ·cases hn
theorem KC {tx ty e tt:TypeId} {i:TypeInfo} {d:TypeDesc} (hu:P.underlying tx=some (.slice e)) (hi:P.info? e=some i) (hty:P.underlying ty=some d) (hd:(∃ e',d= .slice e')∨d= .string)
  {base:Option Addr} {sLen sCap n:Nat} {vy:Value} {new:Array Value} (hn:(Builtin.lenOf vy).run P w= .ok n w) (hf:(Builtin.firstCells i.size n vy).run P w= .ok new w) (hle:sLen+n≤sCap):
  (Builtin.append_ #[tx,ty] tt #[.slice base sLen sCap,vy]).run P w=
   (match base with
    |some a=>(storeCells (a.add (sLen * i.size)) new.toList).run P w
    |none=>.ok () w).andThen fun _ w'=>.ok (.slice base (sLen+n) sCap) w':=by
 rcases hd with⟨e',rfl⟩|rfl
 ·cases base<;>simp[Builtin.append_,run_underlying hu,run_underlying hty,jN hi,hn,hf,hle]
 ·cases base<;>simp[Builtin.append_,run_underlying hu,run_underlying hty,jN hi,hn,hf,hle]
theorem QU {tx ty e tt:TypeId} {i:TypeInfo} {d:TypeDesc} {z:Value} (hu:P.underlying tx=some (.slice e)) (hi:P.info? e=some i) (hz:i.zero=some z) (hty:P.underlying ty=some d) (hd:(∃ e',d= .slice e')∨d= .string)
  {base:Option Addr} {sLen sCap n:Nat} {vy:Value} {new old:Array Value} (hn:(Builtin.lenOf vy).run P w= .ok n w)
  (hfd:(Builtin.firstCells i.size n vy).run P w.drew= .ok new w.drew)
  (hold:(Builtin.firstCells i.size sLen (.slice base sLen sCap)).run P w.drew= .ok old w.drew)
  (hgt:sCap < sLen+n) (hb:i.bytes≠0) (hroom:(sLen+n) * i.bytes≤140737488355328):
  (Builtin.append_ #[tx,ty] tt #[.slice base sLen sCap,vy]).run P w=
   .ok (.slice (some ⟨w.heap.size,0,none⟩) (sLen+n) (grownCap w (sLen+n) sCap e)) (w.drew.alloc (.cells (old++new++Builtin.zeroCells z.cells (grownCap w (sLen+n) sCap e - (sLen+n))) e)):=by
 have hcap:=growslice_fits hgt hroom
 have h2: ¬ sLen+n≤sCap:=by omega
 have h3: ¬ (281474976710656 < Builtin.nextslicecap (sLen+n) sCap * i.bytes):=by omega
 rcases hd with⟨e',rfl⟩|rfl
 ·simp[Builtin.append_,run_underlying hu,run_underlying hty,jN hi,Wv hi,vJ hi hz,hn,hfd,hold,h2,h3,hb,newRow,Question.forced,grownCap]
 ·simp[Builtin.append_,run_underlying hu,run_underlying hty,jN hi,Wv hi,vJ hi hz,hn,hfd,hold,h2,h3,hb,newRow,Question.forced,grownCap]
theorem acs {x:AV} {v:Value} (r:aG m x v) (n:Nat):aI m (List.replicate n x) (List.replicate n v):=by
 induction n with
 |zero=>exact aI.nil
 |succ n ih=>exact aI.cons r ih
theorem AU {z:List AV} {l:List Value} (r:aI m z l) (n:Nat):aI m (List.replicate n z).flatten (List.replicate n l).flatten:=by
 induction n with
 |zero=>exact aI.nil
 |succ n ih=>simp only[List.replicate_succ,List.flatten_cons];exact r.append ih
theorem UJ (cs:List Value) (o:Nat) (l:List Value) (hh:o+l.length≤cs.length) (j:Nat) (hj:j < o∨o+l.length≤j):(cs.take o++l++cs.drop (o+l.length))[j]? =cs[j]? :=by
 simp only[List.getElem?_append,List.length_append,List.length_take,List.getElem?_take,List.getElem?_drop]
 grind
theorem Vb (cs:List Value) (o:Nat) (l:List Value) (hh:o+l.length≤cs.length) (j:Nat) (hj:j < l.length):(cs.take o++l++cs.drop (o+l.length))[o+j]? =l[j]? :=by
 simp only[List.getElem?_append,List.length_append,List.length_take,List.getElem?_take,List.getElem?_drop]
 grind
theorem Xp (s:Sim B w0 m h w) {tx ty e tt:TypeId} {i:TypeInfo} {d:TypeDesc} {z:Value} (hu:P.underlying tx=some (.slice e)) (hi:P.info? e=some i) (hz:i.zero=some z) (hzs:z.cells.size=i.size) (hb:i.bytes≠0)
  (hty:P.underlying ty=some d) (hd:(∃ e',d= .slice e')∨d= .string) {x y:AV} {vx vy:Value} (rx:aG m x vx) (ry:aG m y vy) (g:(AOp.app i.size i.bytes x y).go P h K):
  Res h.n B w0 m K ((Builtin.append_ #[tx,ty] tt #[vx,vy]).run P w):=by
 simp only[AOp.go] at g
 split at g
 ·
  rename_i new n hnew hn
  obtain⟨hl,hroom,k⟩:=g
  obtain⟨l,n',hn',hlen,hr,h1,hrl,hrf⟩:=AA s (P:=P) ry hnew hl
  rw[hn] at hn';cases hn'
  simp only[aG] at rx;subst rx
  by_cases h0:n=0
  ·subst h0
   rw[if_pos rfl] at k
   have:=KC (tt:=tt) hu hi hty hd (base:=none) (sLen:=0) (sCap:=0) hrl hrf (by omega)
   rw[this]
   exact Res.same s VD k
  ·rw[if_neg h0] at k
   obtain⟨l2,n2,hn2,Ci,hr2,h12,hrl2,NI⟩:=AA (s.drew (w.drawn+1)) (P:=P) ry hnew hl
   rw[hn] at hn2;cases hn2
   have:=QU (tt:=tt) hu hi hz hty hd (base:=none) (sLen:=0) (sCap:=0) (n:=n) (new:=l2.toArray) (old:=#[]) hrl NI (by simp[Builtin.firstCells]) (by omega) hb (by rw[Nat.zero_add];omega)
   rw[this]
   have hge:=grownCap_ge w (0+n) 0 e
   have hl2:=hr2.length
   obtain⟨g1,g2⟩:=vC (s.drew (w.drawn+1)) (es:=i.size) (c:=#[]++l2.toArray++Builtin.zeroCells z.cells (grownCap w (0+n) 0 e - (0+n))) e (grownCap w (0+n) 0 e * i.size)
    (fun _=>by rw[Ci];exact Nat.mul_le_mul_right _ (by omega)) (by
     simp[size_zeroCells,hzs]
     rw[←hl2,Ci,Nat.sub_mul]
     have:=Nat.mul_le_mul_right i.size hge
     omega) hr2 (fun i v hv=>by simp[Array.getElem?_append,hv];intro hh;exact absurd (List.getElem?_eq_some_iff.1 hv).1 (by omega)) h12
   refine⟨_,_,_,_,_,rfl,g1,g2,?_,k⟩
   simp only[aG]
   exact⟨⟨w.heap.size,0,grownCap w (0+n) 0 e * i.size,i.size⟩,⟨w.heap.size,0,none⟩,grownCap w (0+n) 0 e,by simp[BM.add],by rw[Nat.zero_add],by omega,by simp,.inr rfl⟩
 ·
  rename_i b off ln new n hnew hn
  obtain⟨hm,hl,hes,NU,k⟩:=g
  obtain⟨l,n',hn',hlen,hr,h1,hrl,hrf⟩:=AA s (P:=P) ry hnew hl
  rw[hn] at hn';cases hn'
  simp only[aG] at rx
  obtain⟨p,a,dh,hp,rfl,hle,hR,ha⟩:=rx
  obtain⟨ho,ho2,c,ec,hc,hsz⟩:=s.own b p hp hm
  have hbb:=s.blk b p hp (by unfold mine at hm;omega)
  have pK:p.es=i.size:=hbb.1.symm.trans NU
  rw[pK] at hR
  have hcR:=ho2 (by omega)
  have hext:p.R≤Ab.ext (h.get b) p:=by unfold Ab.ext;omega
  have hmul:∀ {x y:Nat},x≤y→x * i.size≤y * i.size:=fun hxy=>Nat.mul_le_mul_right _ hxy
  have hadd:(ln+n) * i.size=ln * i.size+n * i.size:=Nat.add_mul _ _ _
  split at k
  ·
   rename_i hroom
   have za:ln+n≤dh:=by
    have h1:(ln+n) * i.size≤dh * i.size:=by omega
    exact Nat.le_of_mul_le_mul_right h1 (Nat.pos_of_ne_zero hes)
   have hrun:=KC (P:=P) (tt:=tt) hu hi hty hd (base:=some a) (sLen:=ln) (sCap:=dh) hrl hrf za
   rw[hrun]
   rcases ha with ha|ha
   ·have e1:ln=0:=by omega
    have e2:n=0:=by omega
    subst e1;subst e2;subst ha
    have hl0:l=[]:=List.length_eq_zero_iff.1 (by rw[←hr.length,hlen];simp)
    have hn0:new=[]:=List.length_eq_zero_iff.1 (by rw[hlen];simp)
    subst hl0;subst hn0
    have hup:h.upd b {h.get b with cells:=splice (h.get b).cells (off+0 * i.size) []}=h:=by
     unfold AH.upd
     congr 1
     funext j
     split
     ·rename_i ej;subst ej;simp[splice]
     ·rfl
    rw[hup] at k
    refine⟨.slice (some a) (0+0) 0,w,_,m,h,by simp[storeCells],(Grow.refl _ _),s,?_,k⟩
    simp only[aG]
    exact⟨p,a,0,hp,rfl,by omega,by rw[pK];exact hR,.inl rfl⟩
   ·subst ha
    obtain⟨w',q1,q2⟩:=s.put (P:=P) hp hm (off:=off+ln * i.size) hr h1 (by rw[hlen];omega)
    refine⟨.slice (some ⟨p.rb,p.ro+off,none⟩) (ln+n) dh,w',_,m,_,?_,?_,q2,?_,k⟩
    ·simp only[addr_add,Nat.add_assoc] at q1 ⊢
     rw[q1];rfl
    ·exact Grow.refl _ _
    ·simp only[aG]
     exact⟨p,_,dh,hp,rfl,za,by rw[pK];exact hR,.inr rfl⟩
  ·rename_i hno
   obtain⟨hroom,hlo,k⟩:=k
   by_cases za:ln+n≤dh
   ·
    have ha':a=⟨p.rb,p.ro+off,none⟩:=by
     rcases ha with e0|ha
     ·exfalso
      have e1:ln=0:=by omega
      have e2:n=0:=by omega
      subst e1;subst e2
      simp at hno hlo
      omega
     ·exact ha
    subst ha'
    have hrun:=KC (P:=P) (tt:=tt) hu hi hty hd (base:=some ⟨p.rb,p.ro+off,none⟩) (sLen:=ln) (sCap:=dh) hrl hrf za
    have hin:=hmul za
    obtain⟨lo,o1,o2,o3,o4⟩:=s.read hp (by unfold live;unfold mine at hm;omega) hlo
    have hlen':l.length=n * i.size:=by rw[←hr.length,hlen]
    have hst:=run_storeCells_at P p.rb (p.ro+off+ln * i.size) ec l 0 c w hc (by omega) h1
    simp only[Nat.add_zero] at hst
    rw[hrun]
    simp only[addr_add]
    rw[hst]
    generalize hc':(c.toList.take (p.ro+off+ln * i.size)++l++c.toList.drop (p.ro+off+ln * i.size+l.length)).toArray=c'
    have hsz':c'.size=c.size:=by subst hc';simp;omega
    have hget:∀ j,j < p.ro+off+ln * i.size∨p.ro+off+ln * i.size+l.length≤j→c'[j]? =c[j]? :=by
     intro j hj
     subst hc'
     rw[List.getElem?_toArray,UJ _ _ _ (by simp;omega) j hj,Array.getElem?_toList]
    have hnew:∀ j,j < l.length→c'[p.ro+off+ln * i.size+j]? =l[j]? :=by
     intro j hj
     subst hc'
     rw[List.getElem?_toArray,Vb _ _ _ (by simp;omega) j hj]
    have sk:=(s.kill b).Wu ho hc hsz' (by
     intro b' q hq hx hrb j hj
     have hne:b'≠b:=by
      intro e1;subst e1;simp[AH.kill,AH.upd] at hx
     have hge:(h.kill b).get b'=h.get b':=by simp[AH.kill,AH.upd,hne]
     rw[hge] at hx hj
     have hap:=s.sep b' b q p hne hq hp hx hm
     refine hget _ ?_
     rcases hap with g|g|g
     ·exact absurd hrb g
     ·left;omega
     ·right;omega)
    have hw:=setRow_heap w p.rb c c' ec (0,0) hc
    have hol:lo.length=ln * i.size:=o3
    have hr1:=o1.length
    obtain⟨q1,q2⟩:=sk.adopt ⟨((h.get b).cells.drop off).take (ln * i.size)++new,i.size,0⟩ ⟨p.rb,p.ro+off,p.R - off,i.size⟩ rfl
     ⟨ho,fun _=>by simp only[List.length_append,hlen];rw[hr1,o3];omega,c',ec,hw,by simp only[Ab.ext,List.length_append,hlen];rw[hr1,o3,hsz'];omega⟩
     ⟨rfl,fun j v hv=>by
      by_cases hj:j < ln * i.size
      ·have hv':(((h.get b).cells.drop off).take (ln * i.size))[j]? =some v:=by
        rw[←hv,List.getElem?_append_left (by rw[hr1,o3];exact hj)]
       obtain⟨v',g1,g2⟩:=o1.get j v hv'
       refine⟨v',?_,aG.mono ?_ _ _ g2,o2 v' (List.mem_of_getElem? g1)⟩
       ·have:=o4 j v' g1
        rw[addr_add] at this
        unfold World.cell? at this ⊢
        rw[show w.heap[(⟨p.rb,p.ro+off+j,none⟩:Addr).block]? =_ from hc] at this
        rw[show(w.setRow p.rb c').heap[(⟨p.rb,p.ro+off+j,none⟩:Addr).block]? =_ from hw]
        have e1:=hget (p.ro+off+j) (by omega)
        simp at this ⊢
        rw[←this];exact e1
       ·intro x q hq
        have:x≠(h.kill b).n:=fun e=>by have:=s.dom x q hq;simp only[AH.kill,AH.upd] at e;omega
        simp[BM.add,this,hq]
      ·have hv':new[j - ln * i.size]? =some v:=by
        rw[←hv,List.getElem?_append_right (by rw[hr1,o3];omega),hr1,o3]
       obtain⟨v',g1,g2⟩:=hr.get _ v hv'
       refine⟨v',?_,aG.mono ?_ _ _ g2,h1 v' (List.mem_of_getElem? g1)⟩
       ·unfold World.cell?
        rw[show(w.setRow p.rb c').heap[(⟨p.rb,p.ro+off+j,none⟩:Addr).block]? =_ from hw]
        have e1:=hnew (j - ln * i.size) (List.getElem?_eq_some_iff.1 g1).1
        rw[show p.ro+off+ln * i.size+(j - ln * i.size)=p.ro+off+j by omega,g1] at e1
        simp
        exact e1
       ·intro x q hq
        have:x≠(h.kill b).n:=fun e=>by have:=s.dom x q hq;simp only[AH.kill,AH.upd] at e;omega
        simp[BM.add,this,hq]⟩
     (by
      intro b' q hq hx
      have hne:b'≠b:=by
       intro e1;subst e1;simp[AH.kill,AH.upd] at hx
      have hge:(h.kill b).get b'=h.get b':=by simp[AH.kill,AH.upd,hne]
      rw[hge] at hx ⊢
      have hap:=s.sep b' b q p hne hq hp hx hm
      rcases hap with g|g|g
      ·exact .inl g
      ·right;left;simp only;omega
      ·right;right
       simp only[Ab.ext,List.length_append,hlen]
       rw[hr1,o3]
       omega)
    refine⟨_,_,_,_,_,rfl,?_,q2,?_,k⟩
    ·exact q1
    simp only[aG]
    exact⟨⟨p.rb,p.ro+off,p.R - off,i.size⟩,⟨p.rb,p.ro+off,none⟩,dh,by simp[BM.add,AH.kill,AH.upd],rfl,za,by simp;omega,.inr rfl⟩
   ·
    have sd:=(s.kill b).drew (w.drawn+1)
    obtain⟨l2,n2,hn2,Ci,hr2,h12,hrl2,NI⟩:=AA (s.drew (w.drawn+1)) (P:=P) ry hnew hl
    rw[hn] at hn2;cases hn2
    have hxc:mP h i.size (.sl b off ln)=some (((h.get b).cells.drop off).take (ln * i.size)):=by simp only[mP];rw[if_pos hlo]
    obtain⟨l3,n3,hn3,hlen3,hr3,h13,hrl3,anL⟩:=AA (s.drew (w.drawn+1)) (P:=P) (y:=.sl b off ln) (vy:=.slice (some a) ln dh) (by simp only[aG];exact⟨p,a,dh,hp,rfl,hle,by rw[pK];exact hR,ha⟩) hxc (.inr (by unfold live;unfold mine at hm;omega))
    simp only[mg,Option.some.injEq] at hn3;subst hn3
    have hgt:dh < ln+n:=by omega
    have:=QU (tt:=tt) hu hi hz hty hd (base:=some a) (sLen:=ln) (sCap:=dh) (n:=n) (new:=l2.toArray) (old:=l3.toArray) hrl NI anL hgt hb (by omega)
    rw[this]
    have hge:=grownCap_ge w (ln+n) dh e
    have hl2:=hr2.length
    have hl3:=hr3.length
    have hmg:=hmul hge
    obtain⟨g1,g2⟩:=vC sd (es:=i.size) (cs:=((h.get b).cells.drop off).take (ln * i.size)++new) (c:=l3.toArray++l2.toArray++Builtin.zeroCells z.cells (grownCap w (ln+n) dh e - (ln+n))) e (grownCap w (ln+n) dh e * i.size)
     (fun _=>by rw[List.length_append,Ci,hlen3];omega) (by
      simp only[List.length_append,Array.size_append,List.size_toArray,size_zeroCells,hzs]
      rw[←hl2,←hl3,Ci,hlen3,Nat.sub_mul]
      omega) (hr3.append hr2) (fun j v hv=>by
       have hj:=(List.getElem?_eq_some_iff.1 hv).1
       simp only[List.length_append] at hj
       rw[←hv]
       simp only[Array.getElem?_append,List.getElem?_append,List.getElem?_toArray,List.size_toArray,Array.size_append]
       grind) (by
       intro x hx
       rcases List.mem_append.1 hx with hx|hx
       ·exact h13 x hx
       ·exact h12 x hx)
    refine⟨_,_,_,_,_,rfl,?_,g2,?_,k⟩
    ·exact g1
    simp only[aG]
    exact⟨⟨w.heap.size,0,grownCap w (ln+n) dh e * i.size,i.size⟩,⟨w.heap.size,0,none⟩,grownCap w (ln+n) dh e,by simp[BM.add,AH.kill,AH.upd],rfl,hge,by simp,.inr rfl⟩
 ·exact g.elim
end Go.Ab
end
section
namespace Go.Ab
open Go.RowKit
variable{B:Nat} {w0 w w':World} {m:BM} {h:AH} {P:Program} {K:AV→AH→Prop}
theorem U7 (m:BM) (n R es ln cap rb:Nat) (hle:ln≤cap) (hR:cap * es=R):aG (m.add n ⟨rb,0,R,es⟩) (.sl n 0 ln) (.slice (some ⟨rb,0,none⟩) ln cap):=by
 simp only[aG]
 exact⟨⟨rb,0,R,es⟩,⟨rb,0,none⟩,cap,by simp[BM.add],rfl,hle,by simp[hR],.inr rfl⟩
theorem Bo (z:Array Value) (n s:Nat) (hs:z.size=s) (i:Nat) (v:Value) (hv:(List.replicate n z.toList).flatten[i]? =some v):(madeCells z (n * s))[i]? =some v:=by
 have hi:=(List.getElem?_eq_some_iff.1 hv).1
 have hlen:(List.replicate n z.toList).flatten.length=n * s:=by simp[hs]
 rw[hlen] at hi
 have hs0:0 < s:=by
  rcases Nat.eq_zero_or_pos s with e|e
  ·subst e;simp at hi
  ·exact e
 have hget:∀ (n i:Nat),i < n * s→(List.replicate n z.toList).flatten[i]? =z.toList[i % s]? :=by
  intro n
  induction n with
  |zero=>intro i hi;simp at hi
  |succ n ih=>
   intro i hi
   simp only[List.replicate_succ,List.flatten_cons]
   by_cases h1:i < s
   ·rw[List.getElem?_append_left (by simpa[hs] using h1),Nat.mod_eq_of_lt h1]
   ·rw[List.getElem?_append_right (by simp[hs];omega)]
    have:z.toList.length=s:=by simpa using hs
    rw[this,ih (i - s) (by rw[Nat.succ_mul] at hi;omega)]
    congr 1
    exact(Nat.mod_eq_sub_mod (by omega)).symm
 rw[hget n i hi] at hv
 unfold madeCells
 rw[Array.getElem?_map]
 simp only[Array.getElem?_range,hi,if_true,Option.map_some]
 rw[hs]
 have hlt:i % s < z.size:=by rw[hs];exact Nat.mod_lt _ hs0
 have h2:=hv
 rw[Array.getElem?_toList,Array.getElem?_eq_getElem hlt] at h2
 rw[getElem!_pos z (i % s) hlt]
 exact h2
theorem ako (s:Sim B w0 m h w) {t e:TypeId} {i:TypeInfo} {zs:List AV} (hu:P.underlying t=some (.slice e)) (hi:P.info? e=some i) (hz:lJ P e=some zs) (hb:i.bytes≠0) {x y:AV} {vx vy:Value} (rx:aG m x vx) (ry:aG m y vy) (g:(AOp.iw i.size i.bytes zs x y).go P h K):
  Res h.n B w0 m K ((Instr.makeSlice t vx vy).run P w):=by
 simp only[AOp.go] at g
 split at g
 ·rename_i n c
  obtain⟨h0,rfl,hroom,k⟩:=g
  simp only[aG] at rx ry
  subst rx;subst ry
  obtain⟨i',z,hi',hz',hr,h1,hl,hs⟩:=oO hz
  rw[hi] at hi';cases hi'
  have hbn:(i.bytes:Int) * n≤70368744177664:=by rw[Int.mul_comm];exact hroom
  have h63:n≤9223372036854775807:=by
   have h1b:(1:Int)≤i.bytes:=by omega
   have:n * 1≤n * i.bytes:=Int.mul_le_mul_of_nonneg_left h1b h0
   omega
  rw[run_make (P:=P) w t e i z hu hi hz' .i64 .i64 n n h0 (Int.le_refl _) (by omega) h63]
  have hfl:=AU (m:=m) hr n.toNat
  have hlen:((List.replicate n.toNat zs).flatten).length=n.toNat * i.size:=by
   simp[hl]
  obtain⟨g1,g2⟩:=vC s (es:=i.size) (c:=madeCells z.cells (n.toNat * i.size)) e (n.toNat * i.size) (fun _=>by omega) (by rw[hlen];simp[size_madeCells]) hfl
   (fun j v hv=>Bo z.cells n.toNat i.size hs j v hv) (by
    intro x hx
    obtain⟨l,hl1,hl2⟩:=List.mem_flatten.1 hx
    rw[List.eq_of_mem_replicate hl1] at hl2
    exact h1 x hl2)
  exact⟨_,_,_,_,_,rfl,g1,g2,U7 m h.n _ i.size n.toNat n.toNat w.heap.size (Nat.le_refl _) rfl,k⟩
 ·exact g.elim
theorem sV {x:AV} {v:Value} {n:Int} (r:aG m x v) (hn:lI x=some n):∃ k,v= .int k n:=by
 cases x<;>simp only[lI,reduceCtorEq,Option.some.injEq] at hn
 subst hn
 simp only[aG] at r
 exact⟨_,r⟩
def lQ (m:BM):Option AV→Option Value→Prop
 |none,none=>True
 |some a,some v=>aG m a v
 |_,_=>False
theorem Lj (isSlice:Bool) (len cap:Nat) {lo hi:Option AV} {vlo vhi:Option Value} (rl:lQ m lo vlo) (rh:lQ m hi vhi) {l h:Int}
  (hl:bnd lo 0=some l) (hh:bnd hi len=some h) (h0:0≤l) (h1:l≤h) (h2:h≤cap):
  (Instr.sliceBounds isSlice len cap vlo vhi none).run P w= .ok (l.toNat,h.toNat,cap) w:=by
 have hb:∀ (k:IntKind) (n:Int) (y:Nat) (c:BoundsCode),0≤n→n≤y→(Instr.sliceBound (.int k n) y c).run P w= .ok n.toNat w:=by
  intro k n y c g1 g2
  simp[Instr.sliceBound,asIntOf,g1,g2]
 cases lo<;>cases hi<;>cases vlo<;>cases vhi<;>simp only[lQ] at rl rh<;>simp only[bnd] at hl hh
 ·simp only[Option.some.injEq] at hl hh;subst hl;subst hh
  simp[Instr.sliceBounds]
 ·simp only[Option.some.injEq] at hl;subst hl
  obtain⟨k,rfl⟩:=sV rh hh
  simp[Instr.sliceBounds,hb k h cap _ h1 h2]
 ·simp only[Option.some.injEq] at hh;subst hh
  obtain⟨k,rfl⟩:=sV rl hl
  simp[Instr.sliceBounds,hb k l len _ h0 h1]
 ·obtain⟨k,rfl⟩:=sV rh hh
  obtain⟨k',rfl⟩:=sV rl hl
  have e:((h.toNat:Nat):Int)=h:=Int.toNat_of_nonneg (by omega)
  simp[Instr.sliceBounds,hb k h cap _ (by omega) h2,hb k' l h.toNat _ h0 (by omega)]
theorem akV (s:Sim B w0 m h w) {t e:TypeId} {i:TypeInfo} (hu:P.underlying t=some (.slice e)) (hi:P.info? e=some i) {x:AV} {vx:Value} {lo hi':Option AV} {vlo vhi:Option Value} (rx:aG m x vx) (rl:lQ m lo vlo) (rh:lQ m hi' vhi)
  (g:(AOp.slc i.size x lo hi' none).go P h K):Res h.n B w0 m K ((Instr.sliceAt t vx vlo vhi none).run P w):=by
 simp only[AOp.go] at g
 split at g
 ·rename_i b off ln
  split at g
  ·rename_i l hh hl hhh
   obtain⟨hes,NU,hm,hlen,h0,h1,h2,k⟩:=g
   simp only[aG] at rx
   obtain⟨p,a,dh,hp,rfl,hle,hR,ha⟩:=rx
   obtain⟨ho,ho2,c,ec,hc,hsz⟩:=s.own b p hp hm
   have hbb:=s.blk b p hp (by unfold mine at hm;omega)
   have pK:p.es=i.size:=hbb.1.symm.trans NU
   rw[pK] at hR
   have hcR:=ho2 (by omega)
   have hcap:hh.toNat≤dh:=by
    have:hh.toNat * i.size≤dh * i.size:=by omega
    exact Nat.le_of_mul_le_mul_right this (Nat.pos_of_ne_zero hes)
   have hb:=Lj (P:=P) (w:=w) true ln dh rl rh hl hhh h0 h1 (by omega)
   have hrun:(Instr.sliceAt t (.slice (some a) ln dh) vlo vhi none).run P w= .ok (.slice (if dh=l.toNat then some a else some (a.add (l.toNat * i.size))) (hh.toNat - l.toNat) (dh - l.toNat)) w:=by
    simp[Instr.sliceAt,Instr.slice,run_underlying hu,hb,jN hi]
   rw[hrun]
   have e1:(hh - l).toNat=hh.toNat - l.toNat:=by omega
   rw[e1] at k
   refine Res.same s ?_ k
   simp only[aG]
   have hmul:(dh - l.toNat) * i.size=dh * i.size - l.toNat * i.size:=Nat.sub_mul _ _ _
   have hle2:l.toNat * i.size≤dh * i.size:=Nat.mul_le_mul_right _ (by omega)
   by_cases e2:dh=l.toNat
   ·rw[if_pos e2]
    exact⟨p,a,dh - l.toNat,hp,rfl,by omega,by rw[pK,hmul];omega,.inl (by omega)⟩
   ·rw[if_neg e2]
    refine⟨p,a.add (l.toNat * i.size),dh - l.toNat,hp,rfl,by omega,by rw[pK,hmul];omega,.inr ?_⟩
    rcases ha with ha|ha
    ·omega
    ·subst ha;rw[addr_add,Nat.add_assoc]
  ·exact g.elim
 ·split at g
  ·rename_i l hh hl hhh
   obtain⟨rfl,rfl,_,k⟩:=g
   simp only[aG] at rx;subst rx
   have hb:=Lj (P:=P) (w:=w) true 0 0 rl rh hl hhh (by omega) (by omega) (by omega)
   have hrun:(Instr.sliceAt t (.slice none 0 0) vlo vhi none).run P w= .ok (.slice none 0 0) w:=by
    simp[Instr.sliceAt,Instr.slice,run_underlying hu,hb,jN hi]
   rw[hrun]
   exact Res.same s VD k
  ·exact g.elim
 ·exact g.elim
theorem aiQ (len cap:Nat) {lo hi:Option AV} {vlo vhi:Option Value} {mx:AV} {vm:Value} (rl:lQ m lo vlo) (rh:lQ m hi vhi) (rm:aG m mx vm) {l h k:Int}
  (hl:bnd lo 0=some l) (hh:bnd hi 0=some h) (hs:hi.isSome=true) (hm:lI mx=some k) (h0:0≤l) (h1:l≤h) (h2:h≤k) (h3:k≤cap):
  (Instr.sliceBounds true len cap vlo vhi (some vm)).run P w= .ok (l.toNat,h.toNat,k.toNat) w:=by
 have hb:∀ (k:IntKind) (n:Int) (y:Nat) (c:BoundsCode),0≤n→n≤y→(Instr.sliceBound (.int k n) y c).run P w= .ok n.toNat w:=by
  intro k n y c g1 g2
  simp[Instr.sliceBound,asIntOf,g1,g2]
 obtain⟨km,rfl⟩:=sV rm hm
 have ek:((k.toNat:Nat):Int)=k:=Int.toNat_of_nonneg (by omega)
 have eh:((h.toNat:Nat):Int)=h:=Int.toNat_of_nonneg (by omega)
 cases lo<;>cases hi<;>cases vlo<;>cases vhi<;>simp only[lQ] at rl rh<;>simp only[bnd] at hl hh<;>simp only[Option.isSome,Bool.false_eq_true] at hs
 ·simp only[Option.some.injEq] at hl;subst hl
  obtain⟨kk,rfl⟩:=sV rh hh
  simp[Instr.sliceBounds,hb km k cap _ (by omega) h3,hb kk h k.toNat _ h1 (by omega)]
 ·obtain⟨kk,rfl⟩:=sV rh hh
  obtain⟨k',rfl⟩:=sV rl hl
  simp[Instr.sliceBounds,hb km k cap _ (by omega) h3,hb kk h k.toNat _ (by omega) (by omega),hb k' l h.toNat _ h0 (by omega)]
theorem akm (s:Sim B w0 m h w) {t e:TypeId} {i:TypeInfo} (hu:P.underlying t=some (.slice e)) (hi:P.info? e=some i) {x:AV} {vx:Value} {lo hi':Option AV} {vlo vhi:Option Value} {mx:AV} {vm:Value} (rx:aG m x vx) (rl:lQ m lo vlo) (rh:lQ m hi' vhi) (rm:aG m mx vm)
  (g:(AOp.zw x lo hi' mx).go P h K):Res h.n B w0 m K ((Instr.sliceAt t vx vlo vhi (some vm)).run P w):=by
 simp only[AOp.go] at g
 split at g
 ·rename_i b off ln
  split at g
  ·rename_i l hh q hl hhh hq
   obtain⟨hs,h0,h1,h2,h3,k⟩:=g
   simp only[aG] at rx
   obtain⟨p,a,dh,hp,rfl,hle,hR,ha⟩:=rx
   have hb:=aiQ (P:=P) (w:=w) ln dh rl rh rm hl hhh hs hq h0 h1 h2 (by omega)
   have hrun:(Instr.sliceAt t (.slice (some a) ln dh) vlo vhi (some vm)).run P w= .ok (.slice (if q.toNat=l.toNat then some a else some (a.add (l.toNat * i.size))) (hh.toNat - l.toNat) (q.toNat - l.toNat)) w:=by
    simp[Instr.sliceAt,Instr.slice,run_underlying hu,hb,jN hi]
   rw[hrun]
   exact Res.same s (qy _) k
  ·exact g.elim
 ·exact g.elim
theorem akl (s:Sim B w0 m h w) {t:TypeId} (hu:P.underlying t=some .string) {x:AV} {vx:Value} {lo hi':Option AV} {vlo vhi:Option Value} (rx:aG m x vx) (rl:lQ m lo vlo) (rh:lQ m hi' vhi)
  (g:(AOp.Nr x lo hi').go P h K):Res h.n B w0 m K ((Instr.sliceAt t vx vlo vhi none).run P w):=by
 simp only[AOp.go] at g
 split at g
 ·rename_i st
  split at g
  ·rename_i l hh hl hhh
   obtain⟨h0,h1,h2,k⟩:=g
   simp only[aG] at rx;subst rx
   have hb:=Lj (P:=P) (w:=w) false st.size st.size rl rh hl hhh h0 h1 h2
   have hrun:(Instr.sliceAt t (.string st) vlo vhi none).run P w= .ok (.string (st.extract l.toNat hh.toNat)) w:=by
    simp[Instr.sliceAt,Instr.slice,run_underlying hu,hb]
   rw[hrun]
   exact Res.same s akg k
  ·exact g.elim
 ·exact g.elim
theorem ai6 (s:Sim B w0 m h w) {t e:TypeId} {i:TypeInfo} {zs:List AV} (hu:P.underlying t=some (.slice e)) (hi:P.info? e=some i) (hz:lJ P e=some zs) {ρ:Operand→AV} {a:Act} (hρ:∀ x,aG m (ρ x) (a.eval x)) {n:Nat} {parts:Array (Nat × Operand)} {ap:List (Nat × Nat × AV)}
  (hap:jX (fun j=>some (j * i.size,i.size)) ρ parts.toList=some ap) (g:(AOp.aU i.size n (List.replicate n zs).flatten ap).go P h K):
  Res h.n B w0 m K ((Instr.buildSlice t n (parts.map fun x=>(x.1,a.eval x.2))).run P w):=by
 simp only[AOp.go] at g
 split at g
 ·rename_i cs hcs
  obtain⟨hsm,hlen,k⟩:=g
  obtain⟨i',z,hi',hz',hr,h1,hl,hs⟩:=oO hz
  rw[hi] at hi';cases hi'
  have hfl:=AU (m:=m) hr n
  have ug:(madeCells z.cells (n * i.size)).toList=(List.replicate n z.cells.toList).flatten:=by
   apply List.ext_getElem?
   intro j
   by_cases hj:j < n * i.size
   ·have hlt:j < ((List.replicate n z.cells.toList).flatten).length:=by simp[hs];exact hj
    rw[List.getElem?_eq_getElem hlt,Array.getElem?_toList]
    exact Bo z.cells n i.size hs j _ (List.getElem?_eq_getElem hlt)
   ·rw[List.getElem?_eq_none (by simp[size_madeCells];omega),List.getElem?_eq_none (by simp[hs];omega)]
  obtain⟨cells',g1,g2,g3⟩:=Gq hρ _ parts.toList ap _ (madeCells z.cells (n * i.size)) cs hap (by rw[ug];exact hfl) (by
   rw[ug]
   intro x hx
   obtain⟨l,hl1,hl2⟩:=List.mem_flatten.1 hx
   rw[List.eq_of_mem_replicate hl1] at hl2
   exact h1 x hl2) hcs
  have hsz:cells'.size=n * i.size:=by have:=g2.length;simp at this;omega
  have hrun:(Instr.buildSlice t n (parts.map fun x=>(x.1,a.eval x.2))).run P w= .ok (.slice (some ⟨w.heap.size,0,none⟩) n n) (w.alloc (.cells cells' e)):=by
   by_cases h0:n * i.size=0
   ·have hmk:madeCells z.cells (n * i.size)= #[]:=by rw[h0];simp[madeCells]
    rw[hmk] at g1
    simp[Instr.buildSlice,run_underlying hu,jN hi,h0,newRow,Array.range_zero',g1]
   ·have NC: ¬ (16777216 < n * i.size):=by omega
    unfold madeCells at g1
    simp[Instr.buildSlice,run_underlying hu,jN hi,vJ hi hz',h0,NC,newRow,g1]
  rw[hrun]
  obtain⟨q1,q2⟩:=vC s (es:=i.size) (c:=cells') e (n * i.size) (fun _=>by omega) (by rw[hlen,hsz];simp) g2 (fun j v hv=>by simpa using hv) g3
  exact⟨_,_,_,_,_,rfl,q1,q2,U7 m h.n _ i.size n n w.heap.size (Nat.le_refl _) rfl,k⟩
 ·exact g.elim
theorem U1 {m:BM}:∀ {cs:List AV} {ns:List Int} {l:List Value},wz cs=some ns→aI m cs l→l=ns.map (Value.int .u8)
 |[],ns,l,hc,r=>by
  simp only[wz,Option.some.injEq] at hc;subst hc
  simpa[aI] using r
 |c::cs,ns,l,hc,r=>by
  cases c<;>try(simp[wz] at hc;done)
  rename_i k n
  cases k<;>try(simp[wz] at hc;done)
  simp only[wz] at hc
  split at hc
  ·rename_i l' hl'
   simp only[Option.some.injEq] at hc;subst hc
   simp only[aI] at r
   obtain⟨v,vs,rfl,hv,hvs⟩:=r
   simp only[aG] at hv;subst hv
   rw[U1 hl' hvs]
   rfl
  ·cases hc
theorem aks (s:Sim B w0 m h w) {src dst e:TypeId} (hs:P.underlying src=some (.slice e)) (he:P.underlying e=some (.int .u8)) (hd:P.underlying dst=some .string) {x:AV} {vx:Value} (rx:aG m x vx) (g:(AOp.CG x).go P h K):
  Res h.n B w0 m K ((convert src dst vx).run P w):=by
 simp only[AOp.go] at g
 split at g
 ·rename_i st hst
  obtain⟨hlv,g⟩:=g
  unfold Cn at hst
  split at hst
  ·simp only[Option.some.injEq] at hst;subst hst
   simp only[aG] at rx;subst rx
   rw[run_convert_bytes_string w src dst e none 0 0 hs he hd]
   have:(Conv.bytesToString (.slice none 0 0)).run P w= .ok (.string .empty) w:=by simp[Conv.bytesToString,Sem.run_pure]
   rw[this]
   exact Res.same s (by simp only[aG]) g
  ·rename_i b off len
   split at hst
   ·rename_i hle
    split at hst
    ·rename_i ns hns
     simp only[Option.some.injEq] at hst;subst hst
     simp only[aG] at rx
     obtain⟨p,a,dh,hp,rfl,hlc,hR,ha⟩:=rx
     simp only[Co] at hlv
     rw[run_convert_bytes_string w src dst e (some a) len dh hs he hd]
     obtain⟨l,h1,h2,h3,h4⟩:=s.read hp hlv hle
     have hl:=U1 hns h1
     have hload:(loadCells a len).run P w= .ok (ns.map (Value.int .u8)).toArray w:=by
      rcases ha with h0|rfl
      ·have:len=0:=by omega
       subst this
       have:l=[]:=List.length_eq_zero_iff.1 h3
       rw[←hl,this];rfl
      ·have hrun:=run_loadCells_list (P:=P) w (⟨p.rb,p.ro+off,none⟩:Addr) l h4
       rw[h3] at hrun
       rw[hrun,hl]
     rw[run_bytesToString w a len dh ns hload]
     exact Res.same s (by simp only[aG]) g
    ·cases hst
   ·cases hst
  ·cases hst
 ·exact g.elim
end Go.Ab
end
section
namespace Go.Ab
open Go.RowKit
variable{B:Nat} {w0 w w':World} {m:BM} {h:AH} {P:Program} {K:AV→AH→Prop}
def eqTy (P:Program) (t:TypeId):Option Nat:=
 match P.underlying t with
 |some (.int _)=>some 0
 |some .string=>some 1
 |some .bool=>some 2
 |_=>none
def AP (P:Program):Nat→List Field→Option (List Nat)
 |_,[]=>some []
 |n,f::fs=>match eqTy P f.type,AP P (n+1) fs with
  |some t,some ts=>if f.offset=n∧f.name≠"_" then some (t::ts) else none
  |_,_=>none
def AO (P:Program) (t:TypeId) (fs:Array Field):Option (List Nat):=
 if P.stoodInHeld t=false∧P.eqGuardType P.depth t=false then AP P 0 fs.toList else none
theorem WQ {t:TypeId} {ty:Nat} (hu:eqTy P t=some ty):(ty=0∧∃ k,P.underlying t=some (.int k))∨(ty=1∧P.underlying t=some .string)∨(ty=2∧P.underlying t=some .bool):=by
 unfold eqTy at hu
 split at hu
 ·rename_i k hk;cases hu;exact .inl ⟨rfl,k,hk⟩
 ·rename_i hk;cases hu;exact .inr (.inl ⟨rfl,hk⟩)
 ·rename_i hk;cases hu;exact .inr (.inr ⟨rfl,hk⟩)
 ·cases hu
theorem ak7 {d:Nat} {t:TypeId} {ty:Nat} (hu:eqTy P t=some ty) {x y:AV} {b:Bool} {vx vy:Value} (rx:aG m x vx) (ry:aG m y vy) (hk:fQ ty x y=true) (hb:fJ .eql x y=some (.bool b)):
  (Op.equalIn (d+1) t vx vy).run P w= .ok b w:=by
 have hu0:=WQ hu;clear hu
 rcases hu0 with⟨rfl,k,hu⟩|⟨rfl,hu⟩|⟨rfl,hu⟩
 ·cases x<;>simp only[fQ,Bool.false_eq_true] at hk
  cases y<;>simp only[fQ,Bool.false_eq_true] at hk
  simp only[fJ] at hb
  split at hb
  ·rename_i e;subst e
   simp only[Option.some.injEq,AV.bool.injEq] at hb
   simp only[aG] at rx ry;subst rx;subst ry;subst hb
   simp[Op.equalIn,run_underlying hu,XJ]
  ·cases hb
 ·cases x<;>simp only[fQ,Bool.false_eq_true] at hk
  cases y<;>simp only[fQ,Bool.false_eq_true] at hk
  simp only[fJ,Option.some.injEq,AV.bool.injEq] at hb
  simp only[aG] at rx ry;subst rx;subst ry;subst hb
  simp[Op.equalIn,run_underlying hu,akj]
 ·cases x<;>simp only[fQ,Bool.false_eq_true] at hk
  cases y<;>simp only[fQ,Bool.false_eq_true] at hk
  simp only[fJ,Option.some.injEq,AV.bool.injEq] at hb
  simp only[aG] at rx ry;subst rx;subst ry;subst hb
  simp[Op.equalIn,run_underlying hu]
theorem ajr {t:TypeId} {ty:Nat} (hu:eqTy P t=some ty):∃ d,P.underlying t=some d∧qJ d=true:=by
 have hu0:=WQ hu;clear hu
 rcases hu0 with⟨rfl,k,hu⟩|⟨rfl,hu⟩|⟨rfl,hu⟩<;>exact⟨_,hu,rfl⟩
theorem Uh (d:Nat) (l k:List Value):∀ (fs:List Field) (n:Nat) (tys:List Nat) (xs ys:List AV) (b:Bool),AP P n fs=some tys→pR tys xs ys=some b→aI m xs (l.drop n)→aI m ys (k.drop n)→
  (forIn (m:=Sem) fs ((none:Option Bool),()) fun f __s=>
   if f.name≠"_" then do
    let a ←part f.type l.toArray f.offset
    let b ←part f.type k.toArray f.offset
    let c ←Op.equalIn (d+1) f.type a b
    if(!c)=true then pure (ForInStep.done (some false,())) else pure (ForInStep.yield (none,()))
   else pure (ForInStep.yield (none,()))).run P w= .ok (if b then(none,()) else(some false,())) w
 |[],n,tys,xs,ys,b,h1,h2,rx,ry=>by
  simp only[AP,Option.some.injEq] at h1;subst h1
  cases xs<;>cases ys<;>simp[pR] at h2
  subst h2
  simp
 |f::fs,n,tys,xs,ys,b,h1,h2,rx,ry=>by
  simp only[AP] at h1
  split at h1
  ·rename_i t ts ht hts
   split at h1
   ·rename_i hc
    obtain⟨ho,hn⟩:=hc
    cases h1
    cases xs with
    |nil=>cases ys<;>simp[pR] at h2
    |cons x xs=>
     cases ys with
     |nil=>simp[pR] at h2
     |cons y ys=>
      simp only[pR] at h2
      split at h2
      ·rename_i b1 hk hb
       split at h2
       ·rename_i c hc
        simp only[Option.some.injEq] at h2
        obtain⟨vx,vxs,e1,r1,rs1⟩:=rx.cons_inv
        obtain⟨vy,vys,e2,r2,rs2⟩:=ry.cons_inv
        obtain⟨dd,hd1,hd2⟩:=ajr ht
        have g1:l[n]? =some vx:=by have:=congrArg (·[0]?) e1;simpa using this
        have g2:k[n]? =some vy:=by have:=congrArg (·[0]?) e2;simpa using this
        have p1:(part f.type l.toArray f.offset).run P w= .ok vx w:=by simp[part,Bg hd1 hd2,ho,g1]
        have p2:(part f.type k.toArray f.offset).run P w= .ok vy w:=by simp[part,Bg hd1 hd2,ho,g2]
        have p3:=ak7 (P:=P) (w:=w) (d:=d) ht r1 r2 hk hb
        rw[List.forIn_cons,if_pos hn]
        simp only[Sem.run_bind,p1,p2,p3,Result.andThen_ok]
        cases b1 with
        |false=>
         subst h2
         simp
        |true=>
         simp only[Bool.not_true,Bool.false_eq_true,if_false,Sem.run_pure,Result.andThen_ok]
         have:=Uh d l k fs (n+1) ts xs ys c hts hc (by
          have:l.drop (n+1)=vxs:=by rw[←List.drop_drop,e1];rfl
          rw[this];exact rs1) (by
          have:k.drop (n+1)=vys:=by rw[←List.drop_drop,e2];rfl
          rw[this];exact rs2)
         rw[this]
         subst h2
         simp
       ·cases h2
      ·cases h2
   ·cases h1
  ·cases h1
theorem ak6 {t:TypeId} {fs:Array Field} {tys:List Nat} (hu:P.underlying t=some (.struct fs)) (hf:AO P t fs=some tys) {xs ys:List AV} {l k:List Value} (rx:aI m xs l) (ry:aI m ys k) {b:Bool} (hb:pR tys xs ys=some b) (d:Nat):
  (Op.equalIn (d+2) t (.agg l.toArray) (.agg k.toArray)).run P w= .ok b w:=by
 unfold AO at hf
 split at hf
 ·rename_i hc
  obtain⟨h2,h3⟩:=hc
  rw[Op.equalIn]
  simp only[Sem.run_bind,run_underlying hu,Result.andThen_ok,run_program,h2,if_false,Bool.false_eq_true]
  rw[←Array.forIn_toList]
  rw[Uh d l k fs.toList 0 tys xs ys b hf hb (by simpa using rx) (by simpa using ry)]
  cases b<;>simp
 ·cases hf
theorem Xo (s:Sim B w0 m h w) {t:TypeId} {fs:Array Field} {tys:List Nat} (hu:P.underlying t=some (.struct fs)) (hf:AO P t fs=some tys) {neg:Bool} {x y:AV} {vx vy:Value} (rx:aG m x vx) (ry:aG m y vy) (ox oy:Operand) (g:(AOp.eqs tys neg x y).go P h K):
  Res h.n B w0 m K ((do eqGuard (if neg then .neq else .eql) t ox oy vx vy;binOp (if neg then .neq else .eql) t vx vy:Sem Value).run P w):=by
 simp only[AOp.go] at g
 split at g
 ·split at g
  ·rename_i b hb
   simp only[aG] at rx ry
   obtain⟨l,hl,_,rfl⟩:=rx
   obtain⟨k,hk,_,rfl⟩:=ry
   have he:(Op.equal t (.agg l.toArray) (.agg k.toArray)).run P w= .ok b w:=ak6 hu hf hl hk hb 9998
   have hg:P.eqGuardType P.depth t=false:=by
    unfold AO at hf
    split at hf
    ·rename_i hc;exact hc.2
    ·cases hf
   refine Res.of_run s ?_ g
   cases neg
   ·exact⟨.bool b,by simp[eqGuard,hg,binOp,he],VE⟩
   ·exact⟨.bool (!b),by simp[eqGuard,hg,binOp,he],VE⟩
  ·exact g.elim
 ·exact g.elim
theorem agW {op:BinOp} {t:TypeId} {ox oy:Operand} {vx vy:Value} (hx:(∃ k n,vx= .int k n)∨(∃ b,vx= .bool b)∨∃ st,vx= .string st):(eqGuard op t ox oy vx vy).run P w= .ok () w:=by
 unfold eqGuard
 rcases hx with⟨k,n,rfl⟩|⟨b,rfl⟩|⟨st,rfl⟩<;>cases op<;>simp
end Go.Ab
end
section
namespace Go.Ab
open Go.RowKit
variable{B:Nat} {w0 w w':World} {m:BM} {h:AH} {P:Program} {K:AV→AH→Prop}
def nE (P:Program) (ρ:Operand→AV) (c:Call):AOp:=
 match c.callee with
 | .value (.func f)=>.call f (c.args.toList.map ρ)
 | .value x=>.iC (ρ x) (c.args.toList.map ρ)
 | .invoke .. =>.bad
 | .builtin b=>
  match b,c.args.toList,c.argTypes.toList with
  | .len,[x],[t]=>match P.underlying t with
   |some (.slice _)=>.len 0 (ρ x)
   |some .string=>.len 1 (ρ x)
   |_=>.bad
  | .append,[x,y],[t,u]=>match P.underlying t with
   |some (.slice e)=>match P.info? e,lJ P e,P.underlying u with
    |some i,some _,some (.slice _)=>if i.bytes=0 then .bad else .app i.size i.bytes (ρ x) (ρ y)
    |some i,some _,some .string=>if i.bytes=0 then .bad else .app i.size i.bytes (ρ x) (ρ y)
    |_,_,_=>.bad
   |_=>.bad
  | .clear,[x],[t]=>match P.underlying t with
   |some (.slice e)=>match P.info? e,lJ P e with
    |some i,some z=>.clr i.size z (ρ x)
    |_,_=>.bad
   |_=>.bad
  | .min,xs,_=>.mnx true (xs.map ρ)
  | .max,xs,_=>.mnx false (xs.map ρ)
  |_,_,_=>.bad
def bE (P:Program) (ρ:Operand→AV) (o:Op):AOp:=
 match o with
 | .move x| .assign x=>.mv (ρ x)
 | .pick c a b=>.pick (ρ c) (ρ a) (ρ b)
 | .alloc t=>match lJ P t with
  |some cs=>.alloc cs
  |none=>.bad
 | .box _ x=>.box (ρ x)
 | .build t parts=>match P.underlying t with
  |some (.struct fs)=>match lJ P t,fs.toList.mapM (fun f=>(P.info? f.type).map fun i=>(f.offset,i.size)) with
   |some z,some pls=>match jX (pls.toArray[·]?) ρ parts.toList with
    |some ap=>.build z ap
    |none=>.bad
   |_,_=>.bad
  |_=>.bad
 | .buildSlice t n parts=>match P.underlying t with
  |some (.slice e)=>match P.info? e,lJ P e with
   |some i,some z=>match jX (fun j=>some (j * i.size,i.size)) ρ parts.toList with
    |some ap=>.aU i.size n (List.replicate n z).flatten ap
    |none=>.bad
   |_,_=>.bad
  |_=>.bad
 | .load t x=>match P.underlying t,P.info? t with
  |some (.struct _),some i=>.ldn i.size (ρ x)
  |some d,some _=>if qJ d then .ld1 (ρ x) else .bad
  |_,_=>.bad
 | .store t x y=>match P.info? t with
  |some i=>.st i.size (ρ x) (ρ y)
  |none=>.bad
 | .fieldAddr s x f=>match P.underlying s with
  |some (.struct fs)=>match fs[f]? with
   |some fd=>match P.info? fd.type with
    |some i=>if i.size=0 then .bad else .fad fd.offset (ρ x)
    |none=>.bad
   |none=>.bad
  |_=>.bad
 | .field s x f=>match P.underlying s with
  |some (.struct fs)=>match fs[f]? with
   |some fd=>match P.underlying fd.type,P.info? fd.type with
    |some (.struct _),some i=>.Oa fd.offset i.size (ρ x)
    |some d,some _=>if qJ d then .zD fd.offset (ρ x) else .bad
    |_,_=>.bad
   |none=>.bad
  |_=>.bad
 | .indexAddr t x i=>match P.underlying t with
  |some (.slice e)=>match P.info? e with
   |some inf=>.idx inf.size (ρ x) (ρ i)
   |none=>.bad
  |_=>.bad
 | .index t x i=>match P.underlying t with
  |some .string=>.jR (ρ x) (ρ i)
  |_=>.bad
 | .binOp op t x y _=>match P.underlying t with
  |some (.int _)=>.bin 0 op (ρ x) (ρ y)
  |some .string=>.bin 1 op (ρ x) (ρ y)
  |some .bool=>.bin 2 op (ρ x) (ρ y)
  |some (.struct fs)=>match AO P t fs,op with
   |some tys,.eql=>.eqs tys false (ρ x) (ρ y)
   |some tys,.neq=>.eqs tys true (ρ x) (ρ y)
   |_,_=>.bad
  |_=>.bad
 | .unOp op _ x=>.una op (ρ x)
 | .convert s d x=>match P.underlying s,P.underlying d with
  |some (.int _),some (.int k)=>.conv k (ρ x)
  |some (.slice e),some .string=>match P.underlying e with
   |some (.int .u8)=>.CG (ρ x)
   |_=>.bad
  |_,_=>.bad
 | .makeFunc (.func f) first caps=>if first.toList.length=0 then .kr f (caps.toList.map ρ) else .bad
 | .makeSlice t l c=>match P.underlying t with
  |some (.slice e)=>match P.info? e,lJ P e with
   |some i,some z=>if i.bytes=0 then .bad else .iw i.size i.bytes z (ρ l) (ρ c)
   |_,_=>.bad
  |_=>.bad
 | .slice t x lo hi none=>match P.underlying t with
  |some (.slice e)=>match P.info? e with
   |some i=>.slc i.size (ρ x) (lo.map ρ) (hi.map ρ) none
   |none=>.bad
  |some .string=>.Nr (ρ x) (lo.map ρ) (hi.map ρ)
  |_=>.bad
 | .slice t x lo hi (some mx)=>match P.underlying t with
  |some (.slice e)=>match P.info? e with
   |some _=>.zw (ρ x) (lo.map ρ) (hi.map ρ) (ρ mx)
   |none=>.bad
  |_=>.bad
 | .nilCheck x=>.bg (ρ x)
 | .extract x i=>.ext (ρ x) i
 | .call c=>nE P ρ c
 |_=>.bad
theorem upon_res {o:Oper} {a:Act} {next:Act→World→Prop} {Q:Exit→Act→World→Prop} {x:Sem Value}
  (r:Res h.n B w0 m K (x.run P w)) (hnext:∀ v av m' h' w',Grow h.n m h'.n m'→Sim B w0 m' h' w'→aG m' av v→K av h'→next (a.put o.dst v) w'):
  o.upon P a next Q ((do pure (.value (←x)):Sem Next).run P w):=by
 obtain⟨v,w',av,m',h',e,h1,h2,h3,h4⟩:=r
 have:(do pure (.value (←x)):Sem Next).run P w= .ok (.value v) w':=by simp[e]
 rw[this]
 exact hnext v av m' h' w' h1 h2 h3 h4
theorem xM {ρ:Operand→AV} {a:Act} (hρ:∀ x,aG m (ρ x) (a.eval x)):∀ (l:List Operand),aI m (l.map ρ) (l.map a.eval)
 |[]=>aI.nil
 |x::l=>aI.cons (hρ x) (xM hρ l)
theorem VF {o:Oper} {a:Act} {next:Act→World→Prop} {Q:Exit→Act→World→Prop} (s:Sim B w0 m h w) {f:FuncId} {args:List AV} {l:List Value} (hl:aI m args l) (g:bN P f args h K)
  (hnext:∀ v av m' h' w',Grow h.n m h'.n m'→Sim B w0 m' h' w'→aG m' av v→K av h'→next (a.put o.dst v) w'):
  o.upon P a next Q ((callFunc f l.toArray).run P w):=by
 obtain⟨⟨fn,h1,h2,h3⟩,hc⟩:=g
 have:(callFunc f l.toArray).run P w= .ok (.enter f l.toArray) w:=by
  simp only[callFunc,Sem.run_bind,run_program,Result.andThen_ok,h1,h2,h3,Bool.false_eq_true,if_false]
  rfl
 rw[this,Oper.upon_enter]
 refine(hc B w0 m w l s hl).mono ?_
 rintro e w' ⟨v,av,m',h',rfl,g1,g2,g3,g4⟩
 exact hnext v av m' h' w' g1 g2 g3 g4
theorem Lu (mn:Bool) (f:Value→Value→Sem Value) (hf:∀ x y,f (.int .i64 x) (.int .i64 y)=pure (.int .i64 (if mn then(if y < x then y else x) else(if x < y then y else x)))):
  ∀ (xs:List AV) (l:List Value) (a n:Int),aI m xs l→pE mn a xs=some n→(l.foldlM f (.int .i64 a)).run P w= .ok (.int .i64 n) w
 |[],l,a,n,r,g=>by
  simp only[aI] at r;subst r
  simp only[pE,Option.some.injEq] at g;subst g
  rfl
 |x::xs,l,a,n,r,g=>by
  obtain⟨v,vs,rfl,r1,r2⟩:=r.cons_inv
  cases x<;>(try simp only[pE,reduceCtorEq] at g)
  rename_i k b
  cases k<;>(try simp only[pE,reduceCtorEq] at g)
  simp only[aG] at r1;subst r1
  rw[List.foldlM_cons,hf]
  simp only[pure_bind]
  exact Lu mn f hf xs vs _ n r2 g
theorem Xm (s:Sim B w0 m h w) {mn:Bool} {xs:List AV} {l:List Value} (r:aI m xs l) (at1:Array TypeId) (tt:TypeId) (g:(AOp.mnx mn xs).go P h K):
  Res h.n B w0 m K (((if mn then Builtin.min_ else Builtin.max_) at1 tt l.toArray).run P w):=by
 simp only[AOp.go] at g
 split at g
 ·rename_i n hn
  cases xs with
  |nil=>simp[uI] at hn
  |cons x xs=>
   obtain⟨v,vs,rfl,r1,r2⟩:=r.cons_inv
   cases x<;>(try simp only[uI,reduceCtorEq] at hn)
   rename_i k b
   cases k<;>(try simp only[uI,reduceCtorEq] at hn)
   simp only[aG] at r1;subst r1
   refine Res.of_run s ⟨.int .i64 n,?_,yu⟩ g
   cases mn
   ·simp only[Bool.false_eq_true,if_false,Builtin.max_]
    exact Lu false Builtin.max2 (fun x y=>by simp[Builtin.max2]) xs vs b n r2 hn
   ·simp only[if_true,Builtin.min_]
    exact Lu true Builtin.min2 (fun x y=>by simp[Builtin.min2]) xs vs b n r2 hn
 ·exact g.elim
theorem ak1 (s:Sim B w0 m h w) {t e tt:TypeId} {i:TypeInfo} {zs:List AV} (hu:P.underlying t=some (.slice e)) (hi:P.info? e=some i) (hz:lJ P e=some zs) {x:AV} {vx:Value} (rx:aG m x vx) (g:(AOp.clr i.size zs x).go P h K):
  Res h.n B w0 m K ((Builtin.clear_ #[t] tt #[vx]).run P w):=by
 simp only[AOp.go] at g
 have NA:aG m (.tup []) (.tuple #[]):=by simp only[aG];exact⟨[],aI.nil,rfl⟩
 split at g
 ·simp only[aG] at rx;subst rx
  exact Res.of_run s ⟨.tuple #[],by simp[Builtin.clear_,run_underlying hu],NA⟩ g
 ·rename_i b off ln
  obtain⟨hm,hzl,hn,k⟩:=g
  simp only[aG] at rx
  obtain⟨p,a,dh,hp,rfl,hle,hR,ha⟩:=rx
  by_cases h0:ln=0
  ·subst h0
   have hup:h.upd b {h.get b with cells:=splice (h.get b).cells off (List.replicate 0 zs).flatten}=h:=by
    unfold AH.upd
    congr 1
    funext j
    split
    ·rename_i ej;subst ej;simp[splice]
    ·rfl
   rw[hup] at k
   exact Res.of_run s ⟨.tuple #[],by simp[Builtin.clear_,run_underlying hu],NA⟩ k
  ·have ha':a=⟨p.rb,p.ro+off,none⟩:=by
    rcases ha with ha|ha
    ·omega
    ·exact ha
   subst ha'
   obtain⟨i',z,hi',hz',hr,h1,hl,hs⟩:=oO hz
   rw[hi] at hi';cases hi'
   have hfl:=AU (m:=m) hr ln
   have hlen:((List.replicate ln zs).flatten).length=ln * i.size:=by simp[hl]
   obtain⟨w',q1,q2⟩:=s.put (P:=P) hp hm (off:=off) hfl (by
    intro x hx
    obtain⟨l,hl1,hl2⟩:=List.mem_flatten.1 hx
    rw[List.eq_of_mem_replicate hl1] at hl2
    exact h1 x hl2) (by rw[hlen];exact hn)
   have hzc:(Builtin.zeroCells z.cells ln).toList=(List.replicate ln z.cells.toList).flatten:=by
    have:Builtin.zeroCells z.cells ln=madeCells z.cells (ln * i.size):=by simp[Builtin.zeroCells,madeCells,hs]
    rw[this]
    apply List.ext_getElem?
    intro j
    by_cases hj:j < ln * i.size
    ·have hlt:j < ((List.replicate ln z.cells.toList).flatten).length:=by simp[hs];exact hj
     rw[List.getElem?_eq_getElem hlt,Array.getElem?_toList]
     exact Bo z.cells ln i.size hs j _ (List.getElem?_eq_getElem hlt)
    ·rw[List.getElem?_eq_none (by simp[size_madeCells];omega),List.getElem?_eq_none (by simp[hs];omega)]
   refine⟨.tuple #[],w',.tup [],m,_,?_,?_,q2,NA,k⟩
   rotate_left
   ·exact Grow.refl _ _
   obtain⟨ln',rfl⟩:∃ q,ln=q+1:=⟨ln - 1,by omega⟩
   simp[Builtin.clear_,run_underlying hu,vJ hi hz',hzc,q1]
 ·exact g.elim
end Go.Ab
end
