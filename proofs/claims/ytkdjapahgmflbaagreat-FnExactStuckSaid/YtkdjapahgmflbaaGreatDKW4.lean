import Derived.Shelf.Spec.SlicesInsert
import Derived.WalkKit
import Derived.Lib.Walk
import Derived.Lib.SliceRun
import Derived.Lib.Overlaps
import Derived.Lib.AppendZerosOnto
import Derived.Laws.Externs
import Derived.Laws.IdiomCopy
import Derived.Laws.CopyRow
import Derived.Laws.NewBlocks
import Derived.Test.YtkdjapahgmflbaaGreatDNm
import Derived.Test.YtkdjapahgmflbaaGreatDKW1
import Derived.Test.YtkdjapahgmflbaaGreatDK5
set_option linter.unusedSimpArgs false
set_option linter.unusedVariables false
section
namespace Go.Proofs.YtkdjapahgmflbaaGreat
open Go Go.RowKit Go.Lib Go.Ab
theorem MK:Tryz.prog.info? 86=some Tryz.t86:=by kernel_rfl
theorem FM {P:Program} (w:World) (dT sT ty elem:TypeId) (sz g o dLen dCap:Nat) (a:Addr) (sLen sCap:Nat) (cur:Array Value) (t:TypeId) (cs:List Value)
  (hu:P.underlying dT=some (.slice elem)) (hs:(P.info? elem).map (·.size)=some sz)
  (hg:w.heap[g]? =some (.cells cur t (0,0))) (hn:cs.length=Nat.min sLen dLen * sz)
  (hsrc:∀ j v,cs[j]? =some v→w.cell? (a.add j)=some v) (hfit:o+cs.length≤cur.size) (h1:∀ v∈cs,v.oneCell'=true):
  (Builtin.copy_ #[dT,sT] ty #[.slice (some ⟨g,o,none⟩) dLen dCap,.slice (some a) sLen sCap]).run P w=
   .ok (goInt (Nat.min sLen dLen)) (w.setRow g (cur.toList.take o++cs++cur.toList.drop (o+cs.length)).toArray):=by
 have hl:=run_loadCells_list (P:=P) w a cs hsrc
 have hst:=run_storeCells_at P g o t cs 0 cur w hg (by simpa using hfit) h1
 cases hq:P.info? elem with
 |none=>simp[hq] at hs
 |some i=>
  have hi:i.size=sz:=by simpa[hq] using hs
  simp[Builtin.copy_,run_underlying hu,Builtin.lenOf,Builtin.firstCells,sizeOf,typeInfo,hq,hi,←hn,hl,hst]
theorem Iq {P:Program} {ops:Array Oper} {Q:Exit→Act→World→Prop} {o:Oper} {rest:List Oper} {a:Act} {w:World} (x:wpList P ops Q (o::rest) a w):wpList P ops Q (o::rest) a w:=x
def ovl (c:Array Value) (o:Nat) (l:List Value):Array Value:=(c.toList.take o++l++c.toList.drop (o+l.length)).toArray
set_option maxHeartbeats 4000000 in
set_option maxRecDepth 100000 in
theorem aj0 (b off n c i vb voff vc:Nat) (cur:Array Value) (e:TypeId) (cs vs:List Value) (w:World) (hi:i < n) (hroom:n+1≤c) (hn63:n+1≤9223372036854775807)
  (hg:w.heap[b]? =some (.cells cur e (0,0))) (hfit:off+(n+1) * 4≤cur.size)
  (hcl:cs.length=(n - i) * 4) (hvl:vs.length=4)
  (hcs:∀ j v,cs[j]? =some v→w.cell? ⟨b,off+i * 4+j,none⟩=some v)
  (hvs:∀ j v,vs[j]? =some v→(w.setRow b (ovl cur (off+(i+1) * 4) cs)).cell? ⟨vb,voff+j,none⟩=some v) (h1c:∀ v∈cs,v.oneCell'=true) (h1v:∀ v∈vs,v.oneCell'=true)
  (hov:∀ lb cb,lb=n - i→(callFunc 408 #[.slice (some ⟨vb,voff,none⟩) 1 vc,.slice (some ⟨b,off+(i+1) * 4,none⟩) lb cb]).run Tryz.prog w= .ok (.value (.bool false)) w):
  Calls Tryz.prog 378 #[.slice (some ⟨b,off,none⟩) n c,.int .i64 i,.slice (some ⟨vb,voff,none⟩) 1 vc] w fun e w'=>
   e= .returned (.slice (some ⟨b,off,none⟩) (n+1) c)∧w'=(w.drew.setRow b (ovl cur (off+(i+1) * 4) cs)).setRow b (ovl (ovl cur (off+(i+1) * 4) cs) (off+i * 4) vs):=by
 have mixed:Tryz.prog.follows .mixedOrders=true:=by kernel_rfl
 have hz2: ¬ ((i:Int)=(n:Int)):=by omega
 have hsz:(Tryz.prog.info? 86).map (·.size)=some 4:=by rw[MK];rfl
 have hw1:IntKind.i64.wrap ((i:Int)+1)=(i:Int)+1:=by rw[IntKind.wrap_i64];omega
 have hw2:IntKind.i64.wrap ((n:Int)+1)=(n:Int)+1:=by rw[IntKind.wrap_i64];omega
 have hb1:(0:Int)≤(i:Int)+1:=by omega
 have hin:i≤n:=by omega
 have htn:((i:Int)+1).toNat=i+1:=by omega
 have aoI:((n:Int)+1).toNat=n+1:=by omega
 have hb2: ¬ (c=i+1):=by omega
 have hb3:(i:Int)≤(n:Int)+1:=by omega
 have hb4: ¬ (c=i):=by omega
 have hb5:n+1 - (i+1)=n - i:=by omega
 have hos:(ovl cur (off+(i+1) * 4) cs).size=cur.size:=by
  unfold ovl;simp[hcl];omega
 have hcp1:∀ ty dl dc sl sc,dl=n - i→sl=n+1 - i→(Builtin.copy_ #[140,140] ty #[.slice (some ⟨b,off+(i+1) * 4,none⟩) dl dc,.slice (some ⟨b,off+i * 4,none⟩) sl sc]).run Tryz.prog w.drew= .ok (goInt (Nat.min sl dl)) (w.drew.setRow b (ovl cur (off+(i+1) * 4) cs)):=fun ty dl dc sl sc h1 h2=>
  FM w.drew 140 140 ty 86 4 b (off+(i+1) * 4) dl dc ⟨b,off+i * 4,none⟩ sl sc cur e cs Tryz.underlying140 hsz hg (by rw[hcl,h1,h2];congr 1;simp only[Nat.min_def];split<;>omega)
   (fun j v hj=>by rw[Addr.add_lit];exact hcs j v hj) (by rw[hcl];omega) h1c
 obtain⟨W1,hW1⟩:∃ W1,W1=w.drew.setRow b (ovl cur (off+(i+1) * 4) cs):=⟨_,rfl⟩
 have hg1:W1.heap[b]? =some (.cells (ovl cur (off+(i+1) * 4) cs) e (0,0)):=by rw[hW1];exact setRow_heap _ _ _ _ _ _ hg
 have hcp2:∀ ty dl dc,dl=n+1 - i→(Builtin.copy_ #[140,140] ty #[.slice (some ⟨b,off+i * 4,none⟩) dl dc,.slice (some ⟨vb,voff,none⟩) 1 vc]).run Tryz.prog W1= .ok (goInt (Nat.min 1 dl)) (W1.setRow b (ovl (ovl cur (off+(i+1) * 4) cs) (off+i * 4) vs)):=fun ty dl dc h1=>
  FM W1 140 140 ty 86 4 b (off+i * 4) dl dc ⟨vb,voff,none⟩ 1 vc _ e vs Tryz.underlying140 hsz hg1 (by rw[hvl,h1];simp only[Nat.min_def];split<;>omega)
   (fun j v hj=>by
    rw[Addr.add_lit,hW1]
    exact hvs j v hj) (by rw[hvl,hos];omega) h1v
 subst hW1
 go_enter Tryz.func378,Tryz.ntmps378
 go_wp2_with (simp only[hov])
 go_region_law_o (refine step_copy_runI rfl _ _ 140 140 rfl _ _ (by simp[Act.eval,Act.put]) (by simp[Act.eval,Act.put]) (hcp1 _ _ _ _ _ (by omega) (by omega)) ?_)
 go_wp2_with ((with_reducible apply Iq);refine wpList_copy_runI _ rfl _ _ 140 140 rfl _ _ rfl rfl (hcp2 _ _ _ (by omega)) ?_)
 go_ret
 exact⟨rfl,rfl⟩
theorem Ua (w:World) (c c':Array Value) (e:TypeId):(w.alloc (.cells c e)).setRow w.heap.size c'=w.alloc (.cells c' e):=by
 unfold World.setRow World.alloc
 simp only
 congr 1
 apply Array.ext
 ·simp
 ·intro k h1 h2
  simp only[Array.getElem_modify,Array.getElem_push]
  split
  ·rename_i hk;subst hk;simp
  ·rename_i hk
   simp only[Array.size_modify,Array.size_push] at h1
   have:k < w.heap.size:=by omega
   simp[this]
set_option maxHeartbeats 4000000 in
set_option maxRecDepth 100000 in
theorem akC (b off n c i vb voff vc:Nat) (c0 cs vs:List Value) (w:World) (hi:i < n) (hnc:n≤c) (hroom:c < n+1) (hbig:(n+1) * 48≤140737488355328)
  (hc0:c0.length=i * 4) (hcl:cs.length=(n - i) * 4) (hvl:vs.length=4)
  (anR:∀ j v,c0[j]? =some v→w.cell? ⟨b,off+j,none⟩=some v)
  (hcs:∀ j v,cs[j]? =some v→w.cell? ⟨b,off+i * 4+j,none⟩=some v)
  (hvs:∀ j v,vs[j]? =some v→w.cell? ⟨vb,voff+j,none⟩=some v) (aoM:∀ v∈c0,v.oneCell'=true) (h1c:∀ v∈cs,v.oneCell'=true) (h1v:∀ v∈vs,v.oneCell'=true):
  Calls Tryz.prog 378 #[.slice (some ⟨b,off,none⟩) n c,.int .i64 i,.slice (some ⟨vb,voff,none⟩) 1 vc] w fun e w'=>
   ∃ (G k:Nat) (row:Array Value),n+1≤G∧row.size=G * 4∧row.toList.take ((n+1) * 4)=c0++(vs++cs)∧e= .returned (.slice (some ⟨w.heap.size,0,none⟩) (n+1) G)∧w'={(w.alloc (.cells row 86)) with drawn:=k}:=by
 have mixed:Tryz.prog.follows .mixedOrders=true:=by kernel_rfl
 have hz2: ¬ ((i:Int)=(n:Int)):=by omega
 have hz3:(c:Int) < (n:Int)+1:=by omega
 have hsz:(Tryz.prog.info? 86).map (·.size)=some 4:=by rw[MK];rfl
 have hw1:IntKind.i64.wrap ((i:Int)+1)=(i:Int)+1:=by rw[IntKind.wrap_i64];omega
 have hw2:IntKind.i64.wrap ((n:Int)+1)=(n:Int)+1:=by rw[IntKind.wrap_i64];omega
 have hkk:(n:Int)+1 - (i:Int)=((n+1 - i:Nat):Int):=by omega
 have hik:i+(n+1 - i)=n+1:=by omega
 have hbw:b < w.heap.size:=block_lt_of_cell (hcs 0 _ (List.getElem?_eq_getElem (by omega)))
 have hvw:vb < w.heap.size:=block_lt_of_cell (hvs 0 _ (List.getElem?_eq_getElem (by omega)))
 have hold:(Builtin.firstCells Tryz.t86.size i (.slice (some ⟨b,off,none⟩) i c)).run Tryz.prog w.drew= .ok c0.toArray w.drew:=by
  exact run_firstCells_some w.drew 4 i ⟨b,off,none⟩ i c c0 hc0 (fun j v hj=>by rw[Addr.add_lit];exact anR j v hj)
 have hz:Tryz.t86.zero=some (.agg #[.int .i64 0,.int .i64 0,.int .i64 0,.slice none 0 0]):=by rfl
 have hrz:∀ ty,(Builtin.append_ #[140,3] ty #[.slice (some ⟨b,off,none⟩) i c,.int .i64 ((n:Int)+1 - (i:Int))]).run Tryz.prog w=
   .ok (.slice (some ⟨w.heap.size,0,none⟩) (n+1) (grownCap w (n+1) c 86)) (w.drew.alloc (.cells (c0.toArray++Builtin.zeroCells (Value.agg #[.int .i64 0,.int .i64 0,.int .i64 0,.slice none 0 0]).cells (n+1 - i)++Builtin.zeroCells (Value.agg #[.int .i64 0,.int .i64 0,.int .i64 0,.slice none 0 0]).cells (grownCap w (n+1) c 86 - (n+1))) 86)):=fun ty=>by
  have h:=Lib.run_append_grow_zeros w 140 3 ty 86 Tryz.t86 _ .i64 .i64 Tryz.underlying140 Tryz.underlying3 MK hz (some ⟨b,off,none⟩) i c c0 hold (n+1 - i) (by omega) (by show 0 < 4;omega) (by omega) (by omega) (by show _ * 48≤_;omega) (by rw[hik];exact growslice_fits (by omega) hbig)
  rw[hik] at h
  rw[hkk]
  exact h
 obtain⟨G,hG⟩:∃ G,G=grownCap w (n+1) c 86:=⟨_,rfl⟩
 obtain⟨ROW,hROW⟩:∃ ROW:Array Value,ROW=c0.toArray++Builtin.zeroCells (Value.agg #[.int .i64 0,.int .i64 0,.int .i64 0,.slice none 0 0]).cells (n+1 - i)++Builtin.zeroCells (Value.agg #[.int .i64 0,.int .i64 0,.int .i64 0,.slice none 0 0]).cells (G - (n+1)):=⟨_,rfl⟩
 rw[←hG] at hrz
 rw[←hROW] at hrz
 have hGn:n+1≤G:=by rw[hG];exact grownCap_ge w _ _ _
 have hRl:ROW.size=G * 4:=by
  rw[hROW]
  simp[size_zeroCells,Value.cells,hc0]
  omega
 have hG63:G≤9223372036854775807:=by
  have:=grownCap_le_maxLen w (n+1) c 86 (by unfold maxLen;omega)
  rw[←hG] at this
  unfold maxLen at this
  omega
 have hGi: ¬ (G=i):=by omega
 have hGim: ¬ (G=i+1):=by omega
 have hci: ¬ (c=i):=by omega
 have hin:i≤n:=by omega
 have htn:((i:Int)+1).toNat=i+1:=by omega
 have hb1:(0:Int)≤(i:Int)+1:=by omega
 have hb3:(i:Int)≤(n:Int):=by omega
 have hN:∀ (W:World),W.heap[w.heap.size]? =some (.cells ROW 86 (0,0))→True:=fun _ _=>trivial
 have hg0:∀ (W:World),W.heap=w.heap.push (.cells ROW 86 (0,0))→W.heap[w.heap.size]? =some (.cells ROW 86 (0,0)):=fun W h=>by rw[h];simp
 have hro:(ovl ROW (i * 4) vs).size=ROW.size:=by unfold ovl;simp[hvl];omega
 have hcell:∀ (W:World) (k o:Nat) (v:Value),W.heap=w.heap.push (.cells ROW 86 (0,0))→k < w.heap.size→w.cell? ⟨k,o,none⟩=some v→W.cell? ⟨k,o,none⟩=some v:=fun W k o v h hk hv=>by
  rw[World.cell?_of_block (w:=w) (by rw[h];simp[Array.getElem?_push];omega)];exact hv
 have hcpA:∀ (W:World),W.heap=w.heap.push (.cells ROW 86 (0,0))→∀ ty dl dc,dl=n+1 - i→(Builtin.copy_ #[140,140] ty #[.slice (some ⟨w.heap.size,i * 4,none⟩) dl dc,.slice (some ⟨vb,voff,none⟩) 1 vc]).run Tryz.prog W= .ok (goInt (Nat.min 1 dl)) (W.setRow w.heap.size (ovl ROW (i * 4) vs)):=fun W hW ty dl dc h1=>
  FM W 140 140 ty 86 4 w.heap.size (i * 4) dl dc ⟨vb,voff,none⟩ 1 vc _ 86 vs Tryz.underlying140 hsz (hg0 W hW) (by rw[hvl,h1];simp only[Nat.min_def];split<;>omega)
   (fun j v hj=>by rw[Addr.add_lit];exact hcell W _ _ _ hW hvw (hvs j v hj)) (by rw[hvl];omega) h1v
 have hcpB:∀ (W W0:World),W0.heap=w.heap.push (.cells ROW 86 (0,0))→W.heap=(W0.setRow w.heap.size (ovl ROW (i * 4) vs)).heap→∀ ty dl dc sl sc,dl=n - i→sl=n - i→(Builtin.copy_ #[140,140] ty #[.slice (some ⟨w.heap.size,(i+1) * 4,none⟩) dl dc,.slice (some ⟨b,off+i * 4,none⟩) sl sc]).run Tryz.prog W= .ok (goInt (Nat.min sl dl)) (W.setRow w.heap.size (ovl (ovl ROW (i * 4) vs) ((i+1) * 4) cs)):=fun W W0 hW0 hW ty dl dc sl sc h1 h2=>
  FM W 140 140 ty 86 4 w.heap.size ((i+1) * 4) dl dc ⟨b,off+i * 4,none⟩ sl sc _ 86 cs Tryz.underlying140 hsz (by rw[hW];exact setRow_heap _ _ _ _ _ _ (hg0 W0 hW0)) (by rw[hcl,h1,h2];simp only[Nat.min_def];split<;>omega)
   (fun j v hj=>by
    rw[Addr.add_lit,World.cell?_of_block (w:=W0.setRow w.heap.size (ovl ROW (i * 4) vs)) (by rw[hW]),World.cell?_of_block (w:=W0) (setRow_other _ _ _ _ (by show b≠_;omega))]
    exact hcell W0 _ _ _ hW0 hbw (hcs j v hj)) (by rw[hcl,hro];omega) h1c
 have hb5:n+1 - (i+1)=n - i:=by omega
 have hfin:(ovl (ovl ROW (i * 4) vs) ((i+1) * 4) cs).size=G * 4∧(ovl (ovl ROW (i * 4) vs) ((i+1) * 4) cs).toList.take ((n+1) * 4)=c0++(vs++cs):=by
  have h0:ROW.toList.take (i * 4)=c0:=by
   rw[hROW]
   simp[←hc0]
  have aoL:ROW.toList.length=G * 4:=by simpa using hRl
  have e1:(ovl ROW (i * 4) vs).toList.take ((i+1) * 4)=c0++vs:=by
   unfold ovl
   simp only[h0]
   rw[List.take_append_of_le_length (by simp[hc0,hvl];omega)]
   exact List.take_of_length_le (by simp[hc0,hvl];omega)
  have e2:(ovl ROW (i * 4) vs).toList.length=G * 4:=by simpa[hRl] using hro
  refine⟨?_,?_⟩
  ·unfold ovl at e2 ⊢
   simp at e2
   simp[hcl,hvl] at e2 ⊢
   omega
  ·rw[show ovl (ovl ROW (i * 4) vs) ((i+1) * 4) cs=((c0++vs)++cs++(ovl ROW (i * 4) vs).toList.drop ((i+1) * 4+cs.length)).toArray from by rw[←e1];rfl]
   simp only
   rw[List.take_append_of_le_length (by simp[hc0,hvl,hcl];omega),List.take_of_length_le (by simp[hc0,hvl,hcl];omega),List.append_assoc]
 clear hkk hik hold hG hROW hRl hro
 go_enter Tryz.func378,Tryz.ntmps378
 go_wp2_with (first
  |((with_reducible apply Iq);refine Lib.wpList_append_run _ rfl _ _ _ _ rfl _ _ rfl rfl _ _ (hrz _) ?_)
  |((with_reducible apply Iq);refine wpList_copy_runI _ rfl _ _ 140 140 rfl _ _ rfl rfl (hcpA _ (by rfl) _ _ _ (by omega)) ?_)
  |((with_reducible apply Iq);fail;refine wpList_copy_runI _ rfl _ _ 140 140 rfl _ _ rfl rfl (hcpB _ ((w.alloc (.cells ROW 86)).drew) (by rfl) (by rfl) _ _ _ _ _ (by omega) (by omega)) ?_))
 go_region_law_o (refine step_copy_runI rfl _ _ 140 140 rfl (.slice (some ⟨w.heap.size,(i+1) * 4,none⟩) (n+1 - (i+1)) (G - (i+1))) (.slice (some ⟨b,off+i * 4,none⟩) (n - i) (c - i)) (by simp[Act.eval,Act.put]) (by simp[Act.eval,Act.put]) (hcpB _ ((w.alloc (.cells ROW 86)).drew) (by rfl) (by rfl) 3 _ _ _ _ (by omega) (by omega)) ?_)
 go_wp2
 go_ret
 refine⟨G,w.drawn+1+1,_,hGn,hfin.1,hfin.2,rfl,?_⟩
 show{((w.alloc (.cells ROW 86)).setRow w.heap.size (ovl ROW (i * 4) vs)).setRow w.heap.size (ovl (ovl ROW (i * 4) vs) ((i+1) * 4) cs) with drawn:=w.drawn+1+1}=_
 rw[Ua,Ua]
theorem aaJ {P:Program} (w:World) (tS tR e:TypeId) (ht:P.underlying tS=some (.slice e)) (size:Nat) (hz:∀ w,(Go.sizeOf e).run P w= .ok size w)
  (a b:Addr) (la ca lb cb:Nat) (heq:a.block=b.block) (hd:a.off+la * size≤b.off∨b.off+lb * size≤a.off):
  (Extern.SlicesOverlaps.overlaps #[tS,tS] #[tR] #[.slice (some a) la ca,.slice (some b) lb cb]).run P w= .ok (.bool false) w:=by
 have hnb:(a.block != b.block)=false:=by simpa using heq
 have hnb':(a.block == b.block)=true:=by simpa using heq
 refine(congrArg (fun z=>Sem.run P z w) (show Extern.SlicesOverlaps.overlaps #[tS,tS] #[tR] #[.slice (some a) la ca,.slice (some b) lb cb]=underlying tS >>= _ from rfl)).trans ?_
 by_cases h0:la=0∨lb=0∨size=0
 ·simp[run_underlying ht,hz,h0]
 ·have hf:(decide (a.off < b.off+lb * size) && decide (b.off < a.off+la * size))=false:=by
   rcases hd with hd|hd
   ·have: ¬ b.off < a.off+la * size:=by omega
    simp[this]
   ·have: ¬ a.off < b.off+lb * size:=by omega
    simp[this]
  simp[run_underlying ht,hz,h0,hnb,hnb']
  simpa using hf
theorem GH (c:Array Value) (o:Nat) (l:List Value) (hh:o+l.length≤c.size) (j:Nat) (hj:j < o∨o+l.length≤j):(ovl c o l)[j]? =c[j]? :=by
 unfold ovl
 rw[List.getElem?_toArray,UJ _ _ _ (by simpa using hh) j hj,Array.getElem?_toList]
theorem Yo (c:Array Value) (o:Nat) (l:List Value) (hh:o+l.length≤c.size) (j:Nat) (hj:j < l.length):(ovl c o l)[o+j]? =l[j]? :=by
 unfold ovl
 rw[List.getElem?_toArray,Vb _ _ _ (by simpa using hh) j hj]
theorem WA (c:Array Value) (o:Nat) (l:List Value) (hh:o+l.length≤c.size):(ovl c o l).size=c.size:=by
 unfold ovl;simp;omega
set_option maxHeartbeats 1000000 in
theorem aj1 {h:AH} {b off n k vb:Nat} {new:List AV} {R:AV→AH→Prop}
  (hm:mine h b) (hes:(h.get b).es=4) (hln:off+n * 4≤(h.get b).cells.length) (hvb:vb≠b) (hmv:mine h vb) (hv:(h.get vb).cells=new) (hnew:new.length=4) (anI:(h.get vb).es=4) (hk:k < n) (hbig:(n+1) * 48≤70368744177664)
  (g:R (.sl h.n 0 (n+1)) ((h.kill b).push ⟨((h.get b).cells.drop off).take (k * 4)++(new++((h.get b).cells.drop (off+k * 4)).take ((n - k) * 4)),4,0⟩)):bN Tryz.prog 378 [.sl b off n,.int .i64 (k:Int),.sl vb 0 1] h R:=by
 refine⟨⟨Tryz.f378,Tryz.func378,by kernel_rfl,by kernel_rfl⟩,fun B w0 m w l s hl=>?_⟩
 obtain⟨x1,l,rfl,r1,hl⟩:=hl.cons_inv
 obtain⟨x2,l,rfl,r2,hl⟩:=hl.cons_inv
 obtain⟨x3,l,rfl,r3,hl⟩:=hl.cons_inv
 simp only[aI] at hl
 subst hl
 simp only[aG] at r1 r2 r3
 subst r2
 obtain⟨p,a,c,hp,rfl,hle,hR,ha⟩:=r1
 obtain⟨q,a2,vc,hq,rfl,hle2,hR2,ha2⟩:=r3
 have ha:a=⟨p.rb,p.ro+off,none⟩:=by rcases ha with e|e;omega;exact e
 have ha2:a2=⟨q.rb,q.ro+0,none⟩:=by rcases ha2 with e|e;omega;exact e
 subst ha;subst ha2
 obtain⟨ho,ho2,cur,ec,hc,hsz⟩:=s.own b p hp hm
 have pK:p.es=4:=(s.blk b p hp (by unfold mine at hm;omega)).1.symm.trans hes
 have anM:q.es=4:=(s.blk vb q hq (by unfold mine at hmv;omega)).1.symm.trans anI
 rw[pK] at hR
 rw[anM] at hR2
 have hcR:=ho2 (by omega)
 have hext:p.R≤Ab.ext (h.get b) p:=by unfold Ab.ext;omega
 have hlv:live h b:=by unfold live;unfold mine at hm;omega
 have hlv2:live h vb:=by unfold live;unfold mine at hmv;omega
 obtain⟨c0,a1,a2,a3,a4⟩:=s.read hp hlv (off:=off) (n:=k * 4) (by omega)
 obtain⟨cs,b1,b2,b3,b4⟩:=s.read hp hlv (off:=off+k * 4) (n:=(n - k) * 4) (by omega)
 obtain⟨vs,d1,d2,d3,d4⟩:=s.read hq hlv2 (off:=0) (n:=4) (by rw[hv];omega)
 rw[hv,List.drop_zero,List.take_of_length_le (by omega)] at d1
 have hap:=s.sep vb b q p hvb hq hp hmv hm
 obtain⟨ov,ov2,an0,ec2,hc2,hsz2⟩:=s.own vb q hq hmv
 have aox:4≤Ab.ext (h.get vb) q:=by unfold Ab.ext;rw[hv];omega
 have Iw:∀ (l:List Value) (o:Nat),(∀ (j:Nat) (v:Value),l[j]? =some v→w.cell? ((⟨p.rb,p.ro+o,none⟩:Addr).add j)=some v)→∀ j v,l[j]? =some v→w.cell? ⟨p.rb,p.ro+o+j,none⟩=some v:=fun l o hl j v hj=>by
  have:=hl j v hj;rwa [Addr.add_lit] at this
 have cellV:∀ j v,vs[j]? =some v→w.cell? ⟨q.rb,q.ro+0+j,none⟩=some v:=fun j v hj=>by
  have:=d4 j v hj;rwa [Addr.add_lit] at this
 have aR:=a1.length
 have bR:=b1.length
 have dR:=d1.length
 have hRl:off+c * 4≤Ab.ext (h.get b) p:=by omega
 by_cases hroom:n+1≤c
 ·have e1:∀ o,p.ro+off+o=p.ro+(off+o):=fun o=>by omega
  have hfit:p.ro+off+(n+1) * 4≤cur.size:=by
   have:(n+1) * 4≤c * 4:=Nat.mul_le_mul_right _ hroom
   omega
  have hz1:(ovl cur (p.ro+off+(k+1) * 4) cs).size=cur.size:=WA _ _ _ (by rw[b3];omega)
  have hcall:=aj0 p.rb (p.ro+off) n c k q.rb (q.ro+0) vc cur ec cs vs w hk hroom (by omega) hc hfit b3 d3 (by intro j v hj;have:=Iw cs _ b4 j v hj;rw[←this];congr 2;omega) (by
    intro j v hj
    have hcv:=cellV j v hj
    by_cases er:q.rb=p.rb
    ·have hj4:=(List.getElem?_eq_some_iff.1 hj).1
     unfold World.cell? at hcv ⊢
     rw[show w.heap[(⟨q.rb,q.ro+0+j,none⟩:Addr).block]? =some (.cells cur ec (0,0)) from by rw[←hc];simp[er]] at hcv
     rw[show(w.setRow p.rb (ovl cur (p.ro+off+(k+1) * 4) cs)).heap[(⟨q.rb,q.ro+0+j,none⟩:Addr).block]? =some (.cells (ovl cur (p.ro+off+(k+1) * 4) cs) ec (0,0)) from by rw[show(⟨q.rb,q.ro+0+j,none⟩:Addr).block=p.rb from er];exact setRow_heap _ _ _ _ _ _ hc]
     have e2:=GH cur (p.ro+off+(k+1) * 4) cs (by rw[b3];omega) (q.ro+0+j) (by
      rw[b3]
      rcases hap with z|z|z
      ·exact absurd er z
      ·left;omega
      ·right;omega)
     simp at hcv e2 ⊢
     rw[e2];exact hcv
    ·rw[World.cell?_of_block (w:=w) (setRow_other _ _ _ _ er)];exact hcv) b2 d2 (by
    intro lb cb hlb
    rw[run_callFunc_extern Tryz.func408 (by kernel_rfl) (by kernel_rfl) (by kernel_rfl) (e:=Extern.SlicesOverlaps.overlaps #[140,140] #[4]) (by kernel_rfl)]
    by_cases er:q.rb=p.rb
    ·rw[aaJ w 140 4 86 Tryz.underlying140 4 Tryz.sizeOf86 ⟨q.rb,q.ro+0,none⟩ ⟨p.rb,p.ro+off+(k+1) * 4,none⟩ 1 vc lb cb er (by
      show q.ro+0+1 * 4≤p.ro+off+(k+1) * 4∨p.ro+off+(k+1) * 4+lb * 4≤q.ro+0
      rcases hap with z|z|z
      ·exact absurd er z
      ·left;omega
      ·right;omega)]
     rfl
    ·rw[Lib.run_overlaps_apart w 140 4 86 Tryz.underlying140 4 Tryz.sizeOf86 ⟨q.rb,q.ro+0,none⟩ ⟨p.rb,p.ro+off+(k+1) * 4,none⟩ 1 vc lb cb er ec2 ec an0.size cur.size (by simp[World.shape?,hc2]) (by simp[World.shape?,hc]) (by omega) (by simp[World.frozen?,hc2]) (by simp[World.frozen?,hc2])]
     rfl)
  refine hcall.mono ?_
  rintro e w' ⟨rfl,rfl⟩
  rw[setRow_setRow]
  have h2f:p.ro+off+k * 4+vs.length≤(ovl cur (p.ro+off+(k+1) * 4) cs).size:=by rw[hz1,d3];omega
  have h1f:p.ro+off+(k+1) * 4+cs.length≤cur.size:=by rw[b3];omega
  obtain⟨c2,hc2'⟩:∃ c2,c2=ovl (ovl cur (p.ro+off+(k+1) * 4) cs) (p.ro+off+k * 4) vs:=⟨_,rfl⟩
  rw[←hc2']
  have hs2:c2.size=cur.size:=by rw[hc2',WA _ _ _ h2f,hz1]
  have hget:∀ j,j < p.ro+off+k * 4∨p.ro+off+(n+1) * 4≤j→c2[j]? =cur[j]? :=by
   intro j hj
   rw[hc2',GH _ _ _ h2f j (by rw[d3];omega),GH _ _ _ h1f j (by rw[b3];omega)]
  have hn1:∀ j,j < 4→c2[p.ro+off+k * 4+j]? =vs[j]? :=by
   intro j hj
   rw[hc2',Yo _ _ _ h2f j (by omega)]
  have hn2:∀ j,j < (n - k) * 4→c2[p.ro+off+(k+1) * 4+j]? =cs[j]? :=by
   intro j hj
   rw[hc2',GH _ _ _ h2f _ (by rw[d3];right;omega),Yo _ _ _ h1f j (by omega)]
  have sk:=((s.kill b).drew (w.drawn+1)).Wu ho (c:=cur) (c':=c2) (e:=ec) hc hs2 (by
   intro b' q' hq' hx hrb j hj
   have hne:b'≠b:=by
    intro e1;subst e1;simp[AH.kill,AH.upd] at hx
   have hge:(h.kill b).get b'=h.get b':=by simp[AH.kill,AH.upd,hne]
   rw[hge] at hx hj
   have NZ:=s.sep b' b q' p hne hq' hp hx hm
   refine hget _ ?_
   rcases NZ with z|z|z
   ·exact absurd hrb z
   ·left;omega
   ·right
    have:(n+1) * 4≤c * 4:=Nat.mul_le_mul_right _ hroom
    omega)
  have hw:=setRow_heap w.drew p.rb cur c2 ec (0,0) hc
  have hkl:∀ i v,(((h.get b).cells.drop off).take (k * 4)++(new++((h.get b).cells.drop (off+k * 4)).take ((n - k) * 4)))[i]? =some v→∃ v',c2[p.ro+off+i]? =some v'∧aG m v v'∧v'.oneCell'=true:=by
   intro i v hiv
   by_cases i1:i < k * 4
   ·rw[List.getElem?_append_left (by omega)] at hiv
    obtain⟨v',g1,g2⟩:=a1.get i v hiv
    refine⟨v',?_,g2,a2 v' (List.mem_of_getElem? g1)⟩
    rw[hget _ (by left;omega)]
    have:=Iw c0 _ a4 i v' g1
    unfold World.cell? at this
    rw[show w.heap[(⟨p.rb,p.ro+off+i,none⟩:Addr).block]? =_ from hc] at this
    simpa using this
   ·rw[List.getElem?_append_right (by omega),aR,a3] at hiv
    by_cases i2:i - k * 4 < 4
    ·rw[List.getElem?_append_left (by omega)] at hiv
     obtain⟨v',g1,g2⟩:=d1.get _ v hiv
     refine⟨v',?_,g2,d2 v' (List.mem_of_getElem? g1)⟩
     have:=hn1 (i - k * 4) i2
     rw[show p.ro+off+k * 4+(i - k * 4)=p.ro+off+i by omega] at this
     rw[this];exact g1
    ·rw[List.getElem?_append_right (by omega),hnew] at hiv
     obtain⟨v',g1,g2⟩:=b1.get _ v hiv
     have hlt:=(List.getElem?_eq_some_iff.1 g1).1
     refine⟨v',?_,g2,b2 v' (List.mem_of_getElem? g1)⟩
     have:=hn2 (i - k * 4 - 4) (by omega)
     rw[show p.ro+off+(k+1) * 4+(i - k * 4 - 4)=p.ro+off+i by omega] at this
     rw[this];exact g1
  have hlen:(((h.get b).cells.drop off).take (k * 4)++(new++((h.get b).cells.drop (off+k * 4)).take ((n - k) * 4))).length=(n+1) * 4:=by
   simp only[List.length_append,hnew];rw[aR,a3,bR,b3];omega
  have hmul:(n+1) * 4≤c * 4:=Nat.mul_le_mul_right _ hroom
  obtain⟨q1,q2⟩:=sk.adopt ⟨((h.get b).cells.drop off).take (k * 4)++(new++((h.get b).cells.drop (off+k * 4)).take ((n - k) * 4)),4,0⟩ ⟨p.rb,p.ro+off,p.R - off,4⟩ rfl
   ⟨ho,fun _=>by show List.length _≤_;rw[hlen];show _≤p.R - off;omega,c2,ec,hw,by simp only[Ab.ext];rw[hlen,hs2];omega⟩
   ⟨rfl,fun j v hj=>by
    obtain⟨v',g1,g2,g3⟩:=hkl j v hj
    refine⟨v',?_,aG.mono ?_ _ _ g2,g3⟩
    ·show(w.drew.setRow p.rb c2).cell? ⟨p.rb,p.ro+off+j,none⟩=some v'
     unfold World.cell?
     rw[show(w.drew.setRow p.rb c2).heap[(⟨p.rb,p.ro+off+j,none⟩:Addr).block]? =_ from hw]
     simpa using g1
    ·intro x q' hq'
     have:x≠(h.kill b).n:=fun e=>by have:=s.dom x q' hq';simp only[AH.kill,AH.upd] at e;omega
     simp[BM.add,this,hq']⟩
   (by
    intro b' q' hq' hx
    have hne:b'≠b:=by
     intro e1;subst e1;simp[AH.kill,AH.upd] at hx
    have hge:(h.kill b).get b'=h.get b':=by simp[AH.kill,AH.upd,hne]
    rw[hge] at hx ⊢
    have NZ:=s.sep b' b q' p hne hq' hp hx hm
    rcases NZ with z|z|z
    ·exact .inl z
    ·right;left;simp only;omega
    ·right;right
     simp only[Ab.ext]
     rw[hlen]
     omega)
  refine⟨_,.sl h.n 0 (n+1),m.add h.n ⟨p.rb,p.ro+off,p.R - off,4⟩,(h.kill b).push ⟨((h.get b).cells.drop off).take (k * 4)++(new++((h.get b).cells.drop (off+k * 4)).take ((n - k) * 4)),4,0⟩,rfl,q1,q2,?_,g⟩
  simp only[aG]
  exact⟨⟨p.rb,p.ro+off,p.R - off,4⟩,⟨p.rb,p.ro+off,none⟩,c,by simp[BM.add,AH.kill,AH.upd],rfl,hroom,by simp;omega,.inr rfl⟩
 ·have hcall:=akC p.rb (p.ro+off) n c k q.rb (q.ro+0) vc c0 cs vs w hk hle (by omega) (by omega) a3 b3 d3 (Iw c0 _ a4) (by intro j v hj;have:=Iw cs _ b4 j v hj;rw[←this];congr 2;omega) cellV a2 b2 d2
  refine hcall.mono ?_
  rintro e w' ⟨G,kd,row,hG,hrs,hrow,rfl,rfl⟩
  have sd:=(s.kill b)
  obtain⟨g1,g2⟩:=vC sd (es:=4) (cs:=((h.get b).cells.drop off).take (k * 4)++(new++((h.get b).cells.drop (off+k * 4)).take ((n - k) * 4))) (c:=row) 86 (G * 4) (l:=c0++(vs++cs))
   (fun _=>by simp only[List.length_append,hnew];rw[aR,a3,bR,b3];omega) (by
    simp only[List.length_append,hnew,hrs];rw[aR,a3,bR,b3];omega) (a1.append (d1.append b1)) (fun j v hj=>by
     have hlt:=(List.getElem?_eq_some_iff.1 hj).1
     simp only[List.length_append,a3,b3,d3] at hlt
     rw[←hrow,List.getElem?_take] at hj
     rw[if_pos (by omega)] at hj
     simpa using hj) (by
     intro x hx
     rcases List.mem_append.1 hx with hx|hx
     ·exact a2 x hx
     ·rcases List.mem_append.1 hx with hx|hx
      ·exact d2 x hx
      ·exact b2 x hx)
  refine⟨_,.sl h.n 0 (n+1),m.add h.n ⟨w.heap.size,0,G * 4,4⟩,(h.kill b).push ⟨((h.get b).cells.drop off).take (k * 4)++(new++((h.get b).cells.drop (off+k * 4)).take ((n - k) * 4)),4,0⟩,rfl,g1,g2.drew kd,?_,g⟩
  simp only[aG]
  exact⟨⟨w.heap.size,0,G * 4,4⟩,⟨w.heap.size,0,none⟩,G,by simp[BM.add,AH.kill,AH.upd],rfl,hG,by simp,.inr rfl⟩
section
def Ou (x0 x1 x2:AV):Prog:=.op (.slc 4 x0 (some x1) none none) fun _=>Ln 0 x2 fun a=>Bn .eql a (.int .i64 0) fun b=>.ite b (.fin [.val x0]) (Ln 0 x0 fun b=>Bn .eql x1 b fun c=>.ite c (.op (.app 4 48 x0 x2) fun a=>.fin [.val a]) (Bn .add b a fun c=>.op (.bad) fun d=>Bn .gtr c d fun c=>.ite c (.op (.slc 4 x0 none (some x1) none) fun _=>Bn .add b a fun b=>Bn .sub b x1 fun _=>.op (.bad) fun b=>.op (.slc 4 b (some x1) none none) fun _=>.op (.bad) fun _=>Bn .add x1 a fun a=>.op (.slc 4 b (some a) none none) fun _=>.op (.slc 4 x0 (some x1) none none) fun _=>.op (.bad) fun _=>.fin [.val b]) (Bn .add b a fun c=>.op (.slc 4 x0 none (some c) none) fun c=>Bn .add x1 a fun d=>.op (.slc 4 c (some d) none none) fun d=>Cl 408 [x2,d] fun d=>.op (.una .not d) fun d=>.ite d (Bn .add x1 a fun a=>.op (.slc 4 c (some a) none none) fun _=>.op (.slc 4 c (some x1) none none) fun _=>.op (.bad) fun _=>.op (.slc 4 c (some x1) none none) fun _=>.op (.bad) fun _=>.fin [.val c]) (.op (.slc 4 c (some b) none none) fun _=>.op (.bad) fun _=>.op (.slc 4 c (some x1) none none) fun b=>Cl ZL [b,a] fun _=>.fin [.val c]))))
theorem aan (x0 x1 x2:AV):CC Tryz.prog C8 [x0,x1,x2] (Ou x0 x1 x2):=cc Tryz.func378 [] (fun r=>if r=11 then[(0,[]),(1,[]),(2,[]),(3,[]),(4,[]),(5,[]),(6,[]),(7,[]),(8,[])] else if r=15 then[(0,[]),(1,[]),(2,[]),(3,[]),(4,[]),(5,[]),(6,[]),(7,[]),(8,[])] else[])
end
theorem GN {h:AH} {b c:Nat} (e:c≠b):(h.kill b).get c=h.get c:=by simp[AH.kill,AH.upd,e]
theorem alk {h:AH} {b:Nat} {X:List Nat} (hb:b∈X):Kp h (h.kill b) X:=⟨Nat.le_refl _,fun c _ hX=>GN fun e=>hX (e▸hb)⟩
theorem aaj {h:AH} {n k vb:Nat} {xs:List Trail} {v:AV} {F G:List Nat} {t:Trail} {cs:List AV} (r:au h v xs F) (o:Own n h F) (bv:Bk h vb cs 4) (rt:Cel.rep h t cs G) (ob:Own n h (vb::G)) (d:∀ c∈F,c ∉ vb::G) (hn:n≤h.n) (hk:k≤xs.length) (hs:(xs.length+1) * 48≤70368744177664):
  bN Tryz.prog C8 [v,.int .i64 (k:Int),.sl vb 0 1] h fun u h'=>Kp h h' F∧∃ F',au h' u (xs.take k++t::xs.drop k) F'∧Own n h' F'∧∀ c∈F',c∈F∨c∈G∨h.n≤c:=by
 have hlc:cs.length=4:=Cel.len rt
 have rv:au h (.sl vb 0 1) [t] (vb::G):=.inr ⟨vb,0,G,cs,rfl,rfl,bv.1,by simp[live,bv.2],by rw[bv.2];rfl,by rw[bv.2];show 0+1 * 4≤cs.length;omega,by simp,by rw[bv.2];show cs=(cs.drop 0).take (1 * 4);rw[List.drop_zero,List.take_of_length_le (by omega)],qo rt⟩
 by_cases hkn:k=xs.length
 ·subst hkn
  refine aan _ _ _ ?_
  unfold Ou
  have anJ:∀ (K:AV→Prog) (Q:Nat→List AV→AH→Prop),(∀ u,(K u).awp Tryz.prog h Q)→(Prog.op (.slc 4 v (some (.int .i64 (xs.length:Int))) none none) K).awp Tryz.prog h Q:=by
   intro K Q hK
   rcases r with⟨rfl,h1,_⟩|⟨b,off,F',cs',rfl,rfl,h1,h2,h3,h4,h5,h6,h7⟩
   ·simp only[Prog.awp,AOp.go,bnd,lI,h1]
    refine⟨by simp,by simp,by simp,hK _⟩
   ·exact vD (by decide) h3 (o.2 b (by simp)).2 h4 (Nat.le_refl _) (hK _)
  refine anJ _ _ fun u=>?_
  have hl1:([t]:List Trail).length=1:=rfl
  refine bP rv ?_
  rw[show(([t]:List Trail).length:Int)=1 from rfl]
  refine br (fun q=>?_) (fun _=>?_)
  ·exact absurd q (by decide)
  refine dP ?_
  refine bP r ?_
  refine br (fun _=>?_) (fun q=>?_)
  rotate_left
  ·exact absurd rfl q
  refine dM ?_
  refine vW (n:=n) r rv (LZ (fK o ob (Nat.le_refl _) d)) hn rfl (by rw[hl1];exact hs) (by rw[hl1];omega) ?_
  intro v' h' F' k' r' o' m'
  (repeat' first|refine vs ?_|fail)
  refine⟨rfl,_,rfl,k',F',?_,o',fun c hc=>m' c hc⟩
  rw[List.take_length,List.drop_length];exact r'
 ·rcases r with⟨rfl,h1,_⟩|⟨b,off,F',cs',rfl,rfl,h1,h2,h3,h4,h5,h6,h7⟩
  ·omega
  have hvb:vb≠b:=fun e=>d b (by simp) (by simp[e])
  refine aj1 (o.2 b (by simp)).2 h3 h4 hvb (ob.2 vb (by simp)).2 (by rw[bv.2]) hlc (by rw[bv.2]) (by omega) hs ?_
  have nd:=List.nodup_cons.1 o.1
  have h7':=h7
  have hsp:xs=xs.take k++xs.drop k:=(List.take_append_drop k xs).symm
  rw[hsp] at h7'
  obtain⟨c1,c2,F1,F2,e1,rfl,q1,q2⟩:=h7'.yj
  have l1:=q1.length
  have l2:=q2.length
  rw[List.length_take,Nat.min_eq_left hk] at l1
  rw[List.length_drop] at l2
  have w4:Cel.w Trail=4:=rfl
  rw[w4] at l1 l2 h4 h6
  have e2:((h.get b).cells.drop off).take (k * 4)=c1:=by
   have:=congrArg (List.take (k * 4)) (h6.symm.trans e1)
   rw[List.take_take,Nat.min_eq_left (by omega),←l1,List.take_left,l1] at this
   exact this
  have e3:((h.get b).cells.drop (off+k * 4)).take ((xs.length - k) * 4)=c2:=by
   have:=congrArg (List.drop (k * 4)) (h6.symm.trans e1)
   rw[List.drop_take,List.drop_drop,←l1,List.drop_left,l1] at this
   rw[←this];congr 1;omega
  rw[e2,e3]
  have kk:∀ c,c≠b→c < h.n→(h.kill b).get c=h.get c∧c < (h.kill b).n:=fun c hc hlt=>⟨GN hc,hlt⟩
  have ltF:=h7.lt
  have ltG:∀ c∈G,c < h.n:=fun c hc=>Cel.lt rt c hc
  have neF:∀ c∈F1++F2,c≠b:=fun c hc e=>nd.1 (e▸hc)
  have neG:∀ c∈G,c≠b:=fun c hc e=>d b (by simp) (by rw[←e];simp[hc])
  have rs:bT (h.kill b) (xs.take k++t::xs.drop k) (c1++(cs++c2)) (F1++(G++F2)):=
   (q1.keep fun c hc=>kk c (neF c (by simp[hc])) (ltF c (by simp[hc]))).append ⟨cs,c2,G,F2,rfl,rfl,Cel.keep rt fun c hc=>kk c (neG c hc) (ltG c hc),q2.keep fun c hc=>kk c (neF c (by simp[hc])) (ltF c (by simp[hc]))⟩
  have hmem:∀ c∈F1++(G++F2),c∈F1++F2∨c∈G:=fun c hc=>by
   simp only[List.mem_append] at hc ⊢
   rcases hc with q|q|q
   ·exact .inl (.inl q)
   ·exact .inr q
   ·exact .inl (.inr q)
  have hlt2:∀ c∈F1++(G++F2),c < (h.kill b).n:=fun c hc=>(hmem c hc).elim (ltF c) (ltG c)
  refine⟨(alk (by simp)).push _,h.n::(F1++(G++F2)),lC (h:=h.kill b) (by simp only[List.length_append,List.length_cons,List.length_take,List.length_drop];omega) (by omega) rs,mM (h:=h.kill b) hn rfl hlt2 ⟨?_,fun c hc=>?_⟩,fun c hc=>?_⟩
  ·have oF:Own n h (F1++F2):=⟨nd.2,fun c hc=>o.2 c (List.mem_cons_of_mem _ hc)⟩
   have oG:Own n h G:=⟨(List.nodup_cons.1 ob.1).2,fun c hc=>ob.2 c (List.mem_cons_of_mem _ hc)⟩
   have:=fK oF oG (Nat.le_refl _) fun c hc hg=>d c (List.mem_cons_of_mem _ hc) (List.mem_cons_of_mem _ hg)
   have p:(F1++(G++F2)).Perm ((F1++F2)++G):=by
    rw[List.append_assoc];exact List.Perm.append_left _ List.perm_append_comm
   exact p.nodup_iff.2 this.1
  ·rcases hmem c hc with q|q
   ·rw[GN (neF c q)];exact o.2 c (List.mem_cons_of_mem _ q)
   ·rw[GN (neG c q)];exact ob.2 c (List.mem_cons_of_mem _ q)
  ·rcases List.mem_cons.1 hc with q|q
   ·exact .inr (.inr (by rw[q];exact Nat.le_refl _))
   ·rcases hmem c q with z|z
    ·exact .inl (List.mem_cons_of_mem _ z)
    ·exact .inr (.inl z)
end Go.Proofs.YtkdjapahgmflbaaGreat
end
section
set_option maxHeartbeats 2000000
namespace Go.Proofs.YtkdjapahgmflbaaGreat
open Go Go.Ab
section
def Sb (x0 x1:AV):Prog:=.op (.box x0) fun a=>Lg 0 a fun a=>Lg 0 x1 fun b=>Bn .gtr a b fun a=>.fin [.val a]
theorem af7 (x0 x1:AV):CC Tryz.prog Ku [x0,x1] (Sb x0 x1):=cc Tryz.func377
def UE (x0 x1 x2 x3:AV):Prog:=.op (.box x1) fun a=>Cl uK [x0] fun b=>Lg 0 a fun c=>Cl oJ [x0,c] fun c=>Bn .geq c (.int .i64 0) fun d=>.ite d (Ix 4 b c fun d=>.op (.fad 3 d) fun d=>.op (.ld1 d) fun e=>Ld 6 a fun a=>Cl kY [a] fun a=>.chk (.ld1 d) e (.op (.aU 6 1 iZ [(0,6,a)]) fun a=>.op (.app 6 64 e a) fun a=>Ix 4 b c fun c=>Sg 3 c a fun _=>.fin [.val b])) (.op (.kr Ku [a]) fun c=>Cl zN [x0,c] fun c=>Bn .lss c (.int .i64 0) fun d=>.scope (.ite d (Ln 0 x0 fun a=>.leaf 0 [a]) (.leaf 0 [c])) (fun c=>.op (.fad 0 a) fun d=>.op (.ld1 d) fun e=>Ld 6 a fun a=>Cl kY [a] fun a=>.chk (.ld1 d) e (.op (.aU 6 1 iZ [(0,6,a)]) fun a=>.op (.build [.int .i64 0,.int .i64 0,.int .i64 0,.aC] [(0,1,e),(1,1,x2),(2,1,x3),(3,1,a)]) fun a=>.op (.aU 4 1 [.int .i64 0,.int .i64 0,.int .i64 0,.aC] [(0,4,a)]) fun a=>Cl C8 [b,g c 0,a] fun a=>.fin [.val a])) fun a b=>aB a 1 (.leaf 1 b) .bad)
theorem aiE (x0 x1 x2 x3:AV):CC Tryz.prog K5 [x0,x1,x2,x3] (UE x0 x1 x2 x3):=cc Tryz.func322 [2,3,5,9,11] (fun r=>if r=4 then[(0,[]),(1,[]),(2,[]),(3,[]),(4,[]),(5,[]),(6,[]),(7,[]),(8,[6]),(9,[]),(10,[]),(11,[]),(12,[]),(13,[])] else if r=9 then[(0,[]),(1,[]),(2,[]),(3,[]),(4,[]),(5,[]),(6,[]),(7,[3]),(8,[]),(9,[]),(10,[]),(11,[]),(12,[])] else[])
def Ur (x0 x1 x2 x3:AV):Prog:=.op (.box x1) fun a=>Cl vg [x0] fun b=>Lg 0 a fun c=>Cl xq [x0,c] fun c=>Bn .geq c (.int .i64 0) fun d=>.ite d (Ix 4 b c fun d=>.op (.fad 3 d) fun d=>.op (.ld1 d) fun e=>Ld 6 a fun a=>Cl lW [a] fun a=>.chk (.ld1 d) e (.op (.aU 6 1 iZ [(0,6,a)]) fun a=>.op (.app 6 64 e a) fun a=>Ix 4 b c fun c=>Sg 3 c a fun _=>.fin [.val b])) (.loop [.int .i64 0] (fun b=>Ln 0 x0 fun c=>Bn .lss (g b 0) c fun c=>.gop c true (.mv x0) fun d=>.gop c true (.mv (g b 0)) fun e=>.gop c true (.idx 4 d e) fun d=>Gf c true 0 d fun d=>Gf c true 0 a fun a=>.gop c true (.bin 0 .leq d a) fun a=>Pk c a (.bool false) fun a=>.ite a (Bn .add (g b 0) (.int .i64 1) fun a=>.leaf 0 [a]) (.leaf 2 [g b 0])) fun b c=>aB b 1 (.leaf 1 c) (aB b 2 (.op (.fad 0 a) fun b=>.op (.ld1 b) fun d=>Ld 6 a fun a=>.op (.alloc [.int .i64 0,.int .i64 0,.int .i64 0,.aC]) fun e=>Cl lW [a] fun a=>.chk (.ld1 b) d (.chk (.alloc [.int .i64 0,.int .i64 0,.int .i64 0,.aC]) e (.op (.aU 6 1 iZ [(0,6,a)]) fun a=>.op (.build [.int .i64 0,.int .i64 0,.int .i64 0,.aC] [(0,1,d),(1,1,x2),(2,1,x3),(3,1,a)]) fun a=>.op (.st 4 e a) fun _=>.op (.slc 4 x0 none (some (g c 0)) none) fun a=>Ld 4 e fun b=>.op (.aU 4 1 [.int .i64 0,.int .i64 0,.int .i64 0,.aC] [(0,4,b)]) fun d=>.op (.slc 4 x0 (some (g c 0)) none none) fun f=>Cl vg [a] fun a=>.chk (.ldn 4 e) b (.chk (.aU 4 1 [.int .i64 0,.int .i64 0,.int .i64 0,.aC] [(0,4,b)]) d (.chk (.slc 4 x0 (some (g c 0)) none none) f (.op (.app 4 48 a d) fun a=>.chk (.slc 4 x0 (some (g c 0)) none none) f (Cl vg [f] fun b=>.op (.app 4 48 a b) fun a=>.fin [.val a]))))))) .bad))
theorem ais (x0 x1 x2 x3:AV):CC Tryz.prog KY [x0,x1,x2,x3] (Ur x0 x1 x2 x3):=cc Tryz.func333 [0,2,3,5,10] (fun r=>if r=4 then[(0,[]),(1,[]),(2,[]),(3,[]),(4,[]),(5,[]),(6,[]),(7,[]),(8,[6]),(9,[]),(10,[]),(11,[]),(12,[]),(13,[])] else if r=7 then[(0,[]),(1,[]),(2,[]),(3,[]),(4,[]),(5,[]),(6,[]),(7,[]),(8,[]),(9,[]),(10,[]),(11,[]),(12,[]),(13,[])] else if r=9 then[(0,[]),(1,[]),(2,[]),(3,[]),(4,[]),(8,[]),(5,[1,8]),(6,[]),(7,[]),(9,[])] else if r=10 then[(0,[]),(1,[]),(2,[]),(4,[]),(5,[]),(7,[]),(8,[]),(9,[]),(3,[4,5,9]),(6,[9]),(10,[]),(11,[]),(12,[])] else[])
end
def gtT (id:Int) (t:Trail):Bool:=decide (id < t.id)
def lN (l:List Trail) (s:Span) (stamp now:Int):List Trail:=
 if idx (isId s.trace) l < 0 then l.take (l.findIdx (gtT s.trace))++⟨s.trace,stamp,now,[s]⟩::l.drop (l.findIdx (gtT s.trace))
 else match l[(idx (isId s.trace) l).toNat]? with
  |some t=>l.set (idx (isId s.trace) l).toNat {t with spans:=t.spans++[s]}
  |none=>l
theorem Xd {l:List Trail} {s:Span} {st nw:Int} (h:idx (isId s.trace) l < 0):lN l s st nw=l.take (l.findIdx (gtT s.trace))++⟨s.trace,st,nw,[s]⟩::l.drop (l.findIdx (gtT s.trace)):=if_pos h
theorem Wi {l:List Trail} {s:Span} {st nw:Int} {i:Nat} {t:Trail} (h:idx (isId s.trace) l=i) (ht:l[i]? =some t):lN l s st nw=l.set i {t with spans:=t.spans++[s]}:=by
 unfold lN
 rw[if_neg (by omega),h]
 simp only[Int.toNat_natCast,ht]
theorem aeF {h:AH} {b:Nat} {s:Span} {v:AV} (a:At h b 0 (s.cs v)):Looks Trail Tryz.prog h Ku [.ptr b 0] (gtT s.trace):=by
 rintro x cs F ⟨w,rfl,r⟩
 refine reader (af7 _ _) (by simp only[old]) ?_
 unfold Sb
 have a':At h b 0 [.int .i64 s.trace,.int .i64 s.id,.int .i64 s.start,.int .i64 s.fin,.bool s.err,v]:=a
 (repeat' first|refine vs ?_|(refine br ?_ ?_<;>first|exact bx|intro _)|fail)
 all_goals(refine pb ?_;simp[gtT, *])
theorem N7 (id:Int) (l:List Trail):l.findIdx (gtT id)≤l.length:=List.findIdx_le_length
theorem amh {id:Int} {l:List Trail}:(idx (gtT id) l < 0→l.findIdx (gtT id)=l.length)∧(¬ idx (gtT id) l < 0→idx (gtT id) l=(l.findIdx (gtT id):Int)):=by
 have:=N7 id l
 unfold idx
 split
 ·exact⟨fun q=>by omega,fun _=>rfl⟩
 ·exact⟨fun _=>by omega,fun q=>by omega⟩
theorem Ug {h:AH} {l:List Trail} {v:AV} {F:List Nat} {s:Span} {vS:AV} {Fs:List Nat} {st nw:Int} (hs:l.length+szs l≤67108864) (hss:Sz.sz s≤67108864) (r:au h v l F) (rs:au h vS s.attrs Fs):
  bN Tryz.prog K5 [v,.agg (s.cs vS),.int .i64 st,.int .i64 nw] h (oz Trail h (lN l s st nw)):=by
 refine aiE _ _ _ _ ?_
 unfold UE
 refine vs0 ?_
 obtain⟨H,hH⟩:∃ H,H=h.push ⟨s.cs vS,0,0⟩:=⟨_,rfl⟩
 have nH:H.n=h.n+1:=by rw[hH];rfl
 have eH:Ext h H:=by rw[hH];exact(Ext.refl h).push _
 have bH:Bk H h.n [.int .i64 s.trace,.int .i64 s.id,.int .i64 s.start,.int .i64 s.fin,.bool s.err,vS] 0:=by rw[hH];exact fD
 rw[←hH]
 clear hH
 have r':=r.ext eH
 have rs':=rs.ext eH
 refine aK (Jg l hs _ _ _ r') ?_
 rintro w1 h1 ⟨e1,G1,q1,o1⟩
 have n1:=e1.1
 have b1:=dX e1 bH
 have r1:=r'.ext e1
 have rs1:=rs'.ext e1
 have E1:Ext h h1:=eH.trans e1
 refine vs ?_
 refine aJ (Ae r1) ?_
 refine br (fun hge=>?_) (fun hlt=>?_)
 ·have hib:=yZ (isId s.trace) l
  obtain⟨i,hi⟩:∃ i:Nat,idx (isId s.trace) l=i:=⟨(idx (isId s.trace) l).toNat,by omega⟩
  obtain⟨t,ht,-,-⟩:=aP (show i < l.length by omega)
  have hil:i < l.length:=(List.getElem?_eq_some_iff.1 ht).1
  have hm:=bC (List.mem_of_getElem? ht)
  have hx2:Sz.sz t=t.spans.length+szs t.spans:=rfl
  rw[Wi hi ht]
  rw[hi]
  obtain⟨b,off,E,Fi,R,rfl,⟨vL,rfl,rL⟩,oL,el,dF,mR,mF⟩:=q1.elt o1 ht
  refine vs ?_
  refine mK (by omega) ?_
  have a1:At h1 b (off+i * 4) [.int .i64 t.id,.int .i64 t.stamp,.int .i64 t.first,vL]:=el.at_
  refine vs ?_
  refine aK (rY s hss _ _ _ ⟨_,rfl,rs1⟩) ?_
  rintro _ h2 ⟨e2,_,G2,rfl,⟨w2,rfl,q2⟩,o2⟩
  have n2:=e2.1
  have el2:=el.ext e2
  have a2:At h2 b (off+i * 4) [.int .i64 t.id,.int .i64 t.stamp,.int .i64 t.first,vL]:=el2.at_
  have rL2:=rL.ext e2
  have oL2:Own h.n h2 Fi:=((iN e2 oL).1).mono (by omega) fun _ _=>rfl
  have dG:∀ c∈Fi,c ∉ G2:=fun c hc hg=>by have:=oL.2 c hc;have:=(o2.2 c hg).1;omega
  have dRG:∀ c∈R,c ∉ G2:=fun c hc hg=>by have:=el.own.2 c hc;have:=(o2.2 c hg).1;omega
  have anD:=q2.lt
  refine vs ?_
  refine iJ (n:=h.n) (xs:=t.spans) (a:=s) (G:=G2) rL2 ⟨_,rfl,q2⟩ (fK oL2 (o2.mono (by omega) fun _ _=>rfl) (Nat.le_refl _) dG) (by omega) rfl (by omega) (by omega) ?_
  intro v' h3 F3 ek k3 q3 o3 m3
  have n3:=k3.1
  have el3:=el2.kp (k3) fun c hc hf=>dF c hf hc
  refine mK (by omega) ?_
  refine vs ?_
  refine el3.st_ (j:=3) q3.cell rfl aX ?_
  intro h4 el4 k4 n4
  have ltR:∀ c∈R,c < h1.n:=el.own.2
  have dR3:∀ c∈F3,c ∉ R:=fun c hc hR=>by
   rcases m3 c hc with q|q|q
   ·exact dF c q hR
   ·exact dRG c hR q
   ·have:=ltR c hR;omega
  have mb:b∈R:=el.mem
  have q4:au h4 v' (t.spans++[s]) F3:=aL k4 q3 fun c hc hb=>dR3 c hc (List.mem_singleton.1 hb▸mb)
  have o4:Own h.n h4 F3:=(dD k4 ⟨o3,q3.lt⟩ fun c hc hb=>dR3 c hc (List.mem_singleton.1 hb▸mb)).1
  have el4:Elt Trail H.n h4 b (off+i * 4) (Trail.cs {t with spans:=t.spans++[s]} v') (.sl b off l.length) l i R:=el4
  have o4':Own H.n h4 F3:=⟨o4.1,fun c hc=>⟨by
   rcases m3 c hc with q|q|q
   ·exact(oL.1.2 c q).1
   ·have:=(o2.2 c q).1;omega
   ·omega,(o4.2 c hc).2⟩⟩
  obtain⟨F5,q5,o5,-⟩:=el4.done (x':={t with spans:=t.spans++[s]}) ⟨v',rfl,q4⟩ o4' dR3
  refine vs ?_
  have oX:∀ c∈Fi,h.n≤c:=fun c hc=>by have:=(oL.1.2 c hc).1;omega
  have hb1:h.n≤b:=by have:=(el.own.1.2 b mb).1;omega
  exact⟨rfl,_,rfl,Kp.ext (ek h (E1.trans e2) (Nat.le_refl _)) k4 fun c hc=>by rw[List.mem_singleton.1 hc];exact hb1,F5,q5,o5.mono (by omega) fun _ _=>rfl⟩
 ·rw[Xd (by omega)]
  refine vs ?_
  refine aJ (Oq r1 (aeF (pI b1))) ?_
  obtain⟨i1,i2⟩:=amh (id:=s.trace) (l:=l)
  have hgb:=N7 s.trace l
  obtain⟨k,hk⟩:∃ k,k=l.findIdx (gtT s.trace):=⟨_,rfl⟩
  rw[←hk] at i1 i2 hgb ⊢
  have body:∀ z:Int,z=(k:Int)→(Prog.op (.fad 0 (.ptr h.n 0)) fun v23=>.op (.ld1 v23) fun v24=>.op (.ldn 6 (.ptr h.n 0)) fun v25=>.op (.call kY [v25]) fun v26=>.chk (.ld1 v23) v24 (.op (.aU 6 1 [AV.int .i64 0,AV.int .i64 0,AV.int .i64 0,AV.int .i64 0,AV.bool false,AV.aC] [(0,6,v26)]) fun v27=>.op (.build [AV.int .i64 0,AV.int .i64 0,AV.int .i64 0,AV.aC] [(0,1,v24),(1,1,.int .i64 st),(2,1,.int .i64 nw),(3,1,v27)]) fun v28=>.op (.aU 4 1 [AV.int .i64 0,AV.int .i64 0,AV.int .i64 0,AV.aC] [(0,4,v28)]) fun v29=>.op (.call C8 [w1,.int .i64 z,v29]) fun v30=>.fin [.val v30])).awp Tryz.prog h1 fun t vs h'=>t=1∧∃ u,vs=[u]∧oz Trail h (l.take k++⟨s.trace,st,nw,[s]⟩::l.drop k) u h':=by
   rintro z rfl
   refine vs ?_
   refine aK (rY s hss _ _ _ ⟨_,rfl,rs1⟩) ?_
   rintro _ h2 ⟨e2,_,G2,rfl,⟨w2,rfl,q2⟩,o2⟩
   have n2:=e2.1
   refine vs ?_
   obtain⟨K,hK⟩:∃ K,K=(h2.push ⟨s.cs w2,6,0⟩):=⟨_,rfl⟩
   have nK:K.n=h2.n+1:=by rw[hK];rfl
   have rS:au K (.sl h2.n 0 1) [s] (h2.n::G2):=by rw[hK];exact lC (n:=1) rfl (by decide) (qo ⟨w2,rfl,q2⟩)
   have oS:Own H.n K (h2.n::G2):=by rw[hK];exact mM (by omega) rfl q2.lt (o2.mono (by omega) fun _ _=>rfl)
   have eK:Ext h2 K:=by rw[hK];exact(Ext.refl _).push _
   have hK':(h2.push ⟨[.int .i64 s.trace,.int .i64 s.id,.int .i64 s.start,.int .i64 s.fin,.bool s.err,w2],6,0⟩)=K:=hK.symm
   rw[hK']
   clear hK hK'
   have q1K:au K w1 l G1:=(q1.ext e2).ext eK
   have o1K:Own H.n K G1:=(iN eK (iN e2 ⟨o1,q1.lt⟩)).1
   have ltG:=q1.lt
   have ltS:=rS.lt
   have dS:∀ c∈G1,c ∉ h2.n::G2:=fun c hc hm=>by
    have:=ltG c hc
    rcases List.mem_cons.1 hm with e|e
    ·omega
    ·have:=(o2.2 c e).1;omega
   refine aK (aaj (n:=H.n) (k:=k) (t:=⟨s.trace,st,nw,[s]⟩) (G:=h2.n::G2) (cs:=[.int .i64 s.trace,.int .i64 st,.int .i64 nw,.sl h2.n 0 1]) (oQ q1K) ?_ fD ⟨_,rfl,oQ rS⟩ ?_ ?_ (by simp only[aH];omega) hgb (by omega)) ?_
   ·exact(jO ⟨o1K,q1K.lt⟩).1
   ·exact mM (by omega) rfl rS.lt oS
   ·intro c hc hm
    rcases List.mem_cons.1 hm with e|e
    ·have:=ltG c hc;omega
    ·exact dS c hc e
   rintro u h5 ⟨k5,F5,q5,o5,-⟩
   refine vs ?_
   refine⟨rfl,_,rfl,?_,F5,q5,o5.mono (by omega) fun _ _=>rfl⟩
   refine Kp.ext ((E1.trans e2).trans (eK.push _)) k5 fun c hc=>?_
   have:=(o1.2 c hc).1;omega
  refine br (fun hl2=>?_) (fun hl2=>?_)
  ·refine lY ?_
   refine dM ?_
   refine bP r1 ?_
   refine dQ ?_
   refine jW ?_
   simp only[g0]
   exact body _ (by have:=i1 hl2;omega)
  ·refine lY ?_
   refine dP ?_
   refine dQ ?_
   refine jW ?_
   simp only[g0]
   exact body _ (by have:=i2 hl2;omega)
theorem Vx {α:Type} {p:α→Bool} {l:List α} {k:Nat} (hk:k≤l.length) (hlo:∀ j y,j < k→l[j]? =some y→p y=false) (hhi:∀ y,l[k]? =some y→p y=true):l.findIdx p=k:=by
 by_cases e:k < l.length
 ·rw[List.findIdx_eq e]
  exact⟨hhi _ (List.getElem?_eq_getElem e),fun j hj=>hlo j _ hj (List.getElem?_eq_getElem (by omega))⟩
 ·have:k=l.length:=by omega
  subst this
  rw[List.findIdx_eq_length]
  intro x hx
  obtain⟨j,hj⟩:=List.mem_iff_getElem?.1 hx
  exact hlo j x (List.getElem?_eq_some_iff.1 hj).1 hj
theorem Ub {h:AH} {l:List Trail} {v:AV} {F:List Nat} {s:Span} {vS:AV} {Fs:List Nat} {st nw:Int} {n:Nat} (hs:l.length+szs l≤67108864) (hss:Sz.sz s≤67108864) (r:au h v l F) (o:Own n h F) (rs:au h vS s.attrs Fs):
  bN Tryz.prog KY [v,.agg (s.cs vS),.int .i64 st,.int .i64 nw] h (oz Trail h (lN l s st nw)):=by
 refine ais _ _ _ _ ?_
 unfold Ur
 refine vs0 ?_
 obtain⟨H,hH⟩:∃ H,H=h.push ⟨s.cs vS,0,0⟩:=⟨_,rfl⟩
 have nH:H.n=h.n+1:=by rw[hH];rfl
 have eH:Ext h H:=by rw[hH];exact(Ext.refl h).push _
 have bH:Bk H h.n [.int .i64 s.trace,.int .i64 s.id,.int .i64 s.start,.int .i64 s.fin,.bool s.err,vS] 0:=by rw[hH];exact fD
 rw[←hH]
 clear hH
 have r':=r.ext eH
 have rs':=rs.ext eH
 refine aK (ER l hs _ _ _ r') ?_
 rintro w1 h1 ⟨e1,G1,q1,o1⟩
 have n1:=e1.1
 have b1:=dX e1 bH
 have r1:=r'.ext e1
 have rs1:=rs'.ext e1
 have E1:Ext h h1:=eH.trans e1
 have o1F:Own n h1 F:=(iN E1 ⟨o,r.lt⟩).1
 refine vs ?_
 refine aJ (JY r1) ?_
 refine br (fun hge=>?_) (fun hlt=>?_)
 ·have hib:=yZ (isId s.trace) l
  obtain⟨i,hi⟩:∃ i:Nat,idx (isId s.trace) l=i:=⟨(idx (isId s.trace) l).toNat,by omega⟩
  obtain⟨t,ht,-,-⟩:=aP (show i < l.length by omega)
  have hil:i < l.length:=(List.getElem?_eq_some_iff.1 ht).1
  have hm:=bC (List.mem_of_getElem? ht)
  have hx2:Sz.sz t=t.spans.length+szs t.spans:=rfl
  rw[Wi hi ht]
  rw[hi]
  obtain⟨b,off,E,Fi,R,rfl,⟨vL,rfl,rL⟩,oL,el,dF,mR,mF⟩:=q1.elt o1 ht
  refine vs ?_
  refine mK (by omega) ?_
  have a1:At h1 b (off+i * 4) [.int .i64 t.id,.int .i64 t.stamp,.int .i64 t.first,vL]:=el.at_
  refine vs ?_
  refine aK (sI s hss _ _ _ ⟨_,rfl,rs1⟩) ?_
  rintro _ h2 ⟨e2,_,G2,rfl,⟨w2,rfl,q2⟩,o2⟩
  have n2:=e2.1
  have el2:=el.ext e2
  have a2:At h2 b (off+i * 4) [.int .i64 t.id,.int .i64 t.stamp,.int .i64 t.first,vL]:=el2.at_
  have rL2:=rL.ext e2
  have oL2:Own h.n h2 Fi:=((iN e2 oL).1).mono (by omega) fun _ _=>rfl
  have dG:∀ c∈Fi,c ∉ G2:=fun c hc hg=>by have:=oL.2 c hc;have:=(o2.2 c hg).1;omega
  have dRG:∀ c∈R,c ∉ G2:=fun c hc hg=>by have:=el.own.2 c hc;have:=(o2.2 c hg).1;omega
  have anD:=q2.lt
  refine vs ?_
  refine iJ (n:=h.n) (xs:=t.spans) (a:=s) (G:=G2) rL2 ⟨_,rfl,q2⟩ (fK oL2 (o2.mono (by omega) fun _ _=>rfl) (Nat.le_refl _) dG) (by omega) rfl (by omega) (by omega) ?_
  intro v' h3 F3 ek k3 q3 o3 m3
  have n3:=k3.1
  have el3:=el2.kp (k3) fun c hc hf=>dF c hf hc
  refine mK (by omega) ?_
  refine vs ?_
  refine el3.st_ (j:=3) q3.cell rfl aX ?_
  intro h4 el4 k4 n4
  have ltR:∀ c∈R,c < h1.n:=el.own.2
  have dR3:∀ c∈F3,c ∉ R:=fun c hc hR=>by
   rcases m3 c hc with q|q|q
   ·exact dF c q hR
   ·exact dRG c hR q
   ·have:=ltR c hR;omega
  have mb:b∈R:=el.mem
  have q4:au h4 v' (t.spans++[s]) F3:=aL k4 q3 fun c hc hb=>dR3 c hc (List.mem_singleton.1 hb▸mb)
  have o4:Own h.n h4 F3:=(dD k4 ⟨o3,q3.lt⟩ fun c hc hb=>dR3 c hc (List.mem_singleton.1 hb▸mb)).1
  have el4:Elt Trail H.n h4 b (off+i * 4) (Trail.cs {t with spans:=t.spans++[s]} v') (.sl b off l.length) l i R:=el4
  have o4':Own H.n h4 F3:=⟨o4.1,fun c hc=>⟨by
   rcases m3 c hc with q|q|q
   ·exact(oL.1.2 c q).1
   ·have:=(o2.2 c q).1;omega
   ·omega,(o4.2 c hc).2⟩⟩
  obtain⟨F5,q5,o5,-⟩:=el4.done (x':={t with spans:=t.spans++[s]}) ⟨v',rfl,q4⟩ o4' dR3
  refine vs ?_
  have hb1:h.n≤b:=by have:=(el.own.1.2 b mb).1;omega
  exact⟨rfl,_,rfl,Kp.ext (ek h (E1.trans e2) (Nat.le_refl _)) k4 fun c hc=>by rw[List.mem_singleton.1 hc];exact hb1,F5,q5,o5.mono (by omega) fun _ _=>rfl⟩
 ·rw[Xd (by omega)]
  have hgb:=N7 s.trace l
  obtain⟨k,hk⟩:∃ k,k=l.findIdx (gtT s.trace):=⟨_,rfl⟩
  rw[←hk] at hgb ⊢
  have hsm:=r1.small
  refine aT l.length (fun i vs h2=>vs=[.int .i64 (i:Int)]∧i≤l.length∧h2=h1∧cu l (fun _ t=>gtT s.trace t=false) i) ⟨rfl,Nat.zero_le _,rfl,up0⟩ ?_
  rintro i vL h2 _ ⟨rfl,hi,rfl,hu⟩
  simp only[g0]
  refine Prog.yE (Q:=fun tag vs' h'=>(tag=0∧i < l.length∧vs'=[.int .i64 ((i+1:Nat):Int)]∧h'=h2∧cu l (fun _ t=>gtT s.trace t=false) (i+1))∨(tag=2∧vs'=[.int .i64 (k:Int)]∧h'=h2)) _ ?_ ?_
  ·refine bP r1 ?_
   refine br (fun hl=>?_) (fun hg=>?_)
   ·obtain⟨t,ht,-,-⟩:=aP (show i < l.length by omega)
    (repeat' first|refine vs ?_|(refine br ?_ ?_<;>first|exact bx|intro _)|((with_reducible refine aY ?_);((refine ix ?_);rintro _ _ _ _ _ ⟨_,rfl,_⟩ _))|fail)
    ·rename_i hle
     exact .inl ⟨rfl,by omega,rfl,rfl,upS hu ht (by simp[gtT];omega)⟩
    ·rename_i hle
     have:k=i:=by rw[hk];exact Vx (by omega) (fun j y hj hy=>hu j y hj hy) fun y hy=>by rw[ht] at hy;cases hy;simp[gtT];omega
     subst this
     exact .inr ⟨rfl,rfl,rfl⟩
   ·(repeat' first|refine vs ?_|fail)
    have:k=i:=by rw[hk];exact Vx (by omega) (fun j y hj hy=>hu j y hj hy) fun y hy=>by have:=(List.getElem?_eq_some_iff.1 hy).1;omega
    subst this
    exact .inr ⟨rfl,rfl,rfl⟩
  rintro tg vs' h' (⟨rfl,hl,rfl,rfl,hu'⟩|⟨rfl,rfl,rfl⟩)
  ·exact jW ⟨hl,rfl,by omega,rfl,hu'⟩
  refine tJ (by decide) (qh (by decide) (qj ?_))
  obtain⟨u1,u2,B,X1,X2,eF,p1,t1,p2,t2,s1,s2⟩:=r1.cut (P:=Tryz.prog) o1F hgb
  have ltF:=r1.lt
  refine vs ?_
  refine aK (sI s hss _ _ _ ⟨_,rfl,oQ rs1⟩) ?_
  rintro _ h3 ⟨e3,_,G3,rfl,⟨w3,rfl,q3⟩,o3⟩
  have n3:=e3.1
  simp only[aH] at n3
  have B3:Bk h3 h'.n [.int .i64 0,.int .i64 0,.int .i64 0,.aC] 0:=dX e3 fD
  have e3':Ext h' h3:=((Ext.refl h').push _).trans e3
  refine vs ?_
  refine yU ⟨by rw[B3.2],by rw[B3.2],by rw[B3.2]⟩ ?_
  refine vs ?_
  obtain⟨L,hL⟩:∃ L,L=h3.upd h'.n ⟨[.int .i64 s.trace,.int .i64 st,.int .i64 nw,.sl h3.n 0 1],0,0⟩:=⟨_,rfl⟩
  have nL:L.n=h3.n:=by rw[hL];rfl
  have eL:Ext h' L:=by rw[hL];exact e3'.upd (Nat.le_refl _) _
  have bL:Bk L h'.n [.int .i64 s.trace,.int .i64 st,.int .i64 nw,.sl h3.n 0 1] 0:=by rw[hL];exact fP (by omega)
  have ng3:h'.n ∉ G3:=fun hm=>by have:=(o3.2 _ hm).1;simp only[aH] at this;omega
  have qL:au L w3 s.attrs G3:=by rw[hL];exact fC q3 ng3
  have oL:Own (h'.n+1) L G3:=by rw[hL];exact(dN ⟨o3,q3.lt⟩ ng3).1
  obtain⟨K,hK⟩:∃ K,K=L.push ⟨[.int .i64 s.trace,.int .i64 s.id,.int .i64 s.start,.int .i64 s.fin,.bool s.err,w3],6,0⟩:=⟨_,rfl⟩
  have nK:K.n=h3.n+1:=by rw[hK,aH,nL]
  have eK:Ext h' K:=by rw[hK];exact eL.push _
  have bK:Bk K h'.n [.int .i64 s.trace,.int .i64 st,.int .i64 nw,.sl h3.n 0 1] 0:=by rw[hK];exact jC bL
  have rK:au K (.sl h3.n 0 1) [s] (h3.n::G3):=by
   rw[hK,←nL]
   exact lC (n:=1) rfl (by decide) (qo ⟨w3,rfl,qL⟩)
  have oK:Own h.n K (h3.n::G3):=by
   rw[hK,←nL]
   exact mM (by omega) rfl qL.lt (oL.mono (by omega) fun _ _=>rfl)
  rw[←hL]
  rw[←hK]
  clear hK
  have gB:∀ (X:AH),Ext h' X→∀ c∈B,X.get c=h'.get c:=fun X eX c hc=>eX.2 c (ltF c (by rw[eF];simp[hc]))
  refine Iy (s1 K _ (gB K eK) ?_)
  refine vs ?_
  obtain⟨M,hM⟩:∃ M,M=K.push ⟨[.int .i64 s.trace,.int .i64 st,.int .i64 nw,.sl h3.n 0 1],4,0⟩:=⟨_,rfl⟩
  have nM:M.n=K.n+1:=by rw[hM];rfl
  have eKM:Ext K M:=by rw[hM];exact(Ext.refl K).push _
  have eM:Ext h' M:=eK.trans eKM
  have bM:Bk M h'.n [.int .i64 s.trace,.int .i64 st,.int .i64 nw,.sl h3.n 0 1] 0:=dX eKM bK
  have bM2:Bk M K.n [.int .i64 s.trace,.int .i64 st,.int .i64 nw,.sl h3.n 0 1] 4:=by rw[hM];exact fD
  have rM:au M (.sl K.n 0 1) [(⟨s.trace,st,nw,[s]⟩:Trail)] (K.n::h3.n::G3):=by rw[hM];exact lC (n:=1) rfl (by decide) (qo ⟨_,rfl,rK⟩)
  have oM:Own h.n M (K.n::h3.n::G3):=by rw[hM];exact mM (by omega) rfl rK.lt oK
  have hMe:K.push ⟨[.int .i64 s.trace,.int .i64 st,.int .i64 nw,.sl h3.n 0 1],4,0⟩=M:=hM.symm
  rw[hMe]
  clear hM hMe
  refine Iy (s2 M _ (gB M eM) ?_)
  have ht1:(l.take k).length+szs (l.take k)≤67108864:=by
   have:=yG (l.take k) (l.drop k);rw[List.take_append_drop] at this
   rw[List.length_take];omega
  have ht2:(l.drop k).length+szs (l.drop k)≤67108864:=by
   have:=yG (l.take k) (l.drop k);rw[List.take_append_drop] at this
   rw[List.length_drop];omega
  refine aK (ER (l.take k) ht1 _ _ _ (p1.ext eM)) ?_
  rintro w5 h5 ⟨e5,G5,q5,o5⟩
  have n5:=e5.1
  have b5:=dX e5 bM
  refine vs ?_
  refine MF (dX e5 bM2) (by rfl) (by decide) (by rfl) ?_
  refine yU (s2 h5 (fun v' h2=>v'=u2∧h2=h5) (gB h5 (eM.trans e5)) ⟨rfl,rfl⟩) ?_
  have hl1:([(⟨s.trace,st,nw,[s]⟩:Trail)]).length=1:=rfl
  have ltM:=rM.lt
  have lM:∀ c∈h3.n::G3,c < M.n:=fun c hc=>ltM c (List.mem_cons_of_mem _ hc)
  have o5':Own h.n h5 (G5++(h3.n::G3)):=fK (o5.mono (by omega) fun _ _=>rfl) (⟨(List.nodup_cons.1 oM.1).2,fun c hc=>by
   have:=oM.2 c (List.mem_cons_of_mem _ hc)
   rw[e5.2 c (lM c hc)];exact this⟩) (Nat.le_refl _) fun c hc hm=>by
    have:=(o5.2 c hc).1;have:=lM c hm;omega
  refine vW (n:=h.n) q5 (rM.ext e5) o5' (by omega) rfl (by rw[hl1,List.length_take];omega) (by rw[hl1,List.length_take];omega) ?_
  intro w6 h6 F6 k6 q6 o6 m6
  have n6:=k6.1
  have k6':∀ c,c < M.n→h6.get c=h5.get c:=fun c hc=>k6.2 c (by omega) fun hm=>by have:=(o5.2 c hm).1;omega
  have e6:Ext h' h6:=⟨by have:=eM.1;omega,fun c hc=>by
   have:=eM.1
   rw[k6' c (by omega)];exact(eM.trans e5).2 c hc⟩
  refine yU (s2 h6 (fun v' h2=>v'=u2∧h2=h6) (gB h6 e6) ⟨rfl,rfl⟩) ?_
  refine aK (ER (l.drop k) ht2 _ _ _ (p2.ext e6)) ?_
  rintro w7 h7 ⟨e7,G7,q7,o7⟩
  have n7:=e7.1
  refine vW (n:=h.n) (q6.ext e7) q7 (LZ (fK (o6.ext e7 q6.lt) (o7.mono (by omega) fun _ _=>rfl) (Nat.le_refl _) fun c hc hm=>by
   have:=q6.lt c hc;have:=(o7.2 c hm).1;omega)) (by omega) rfl (by simp only[List.length_append,List.length_take,List.length_drop,hl1];omega) (by simp only[List.length_append,List.length_take,List.length_drop,hl1];omega) ?_
  intro w8 h8 F8 k8 q8 o8 m8
  refine vs ?_
  refine⟨rfl,_,rfl,?_,F8,?_,o8⟩
  ·refine Kp.ext ((E1.trans e6).trans e7) k8 fun c hc=>(o6.2 c hc).1
  ·have:l.take k++[(⟨s.trace,st,nw,[s]⟩:Trail)]++l.drop k=l.take k++⟨s.trace,st,nw,[s]⟩::l.drop k:=by simp
   rw[←this];exact q8
end Go.Proofs.YtkdjapahgmflbaaGreat
end
section
namespace Go.Proofs.YtkdjapahgmflbaaGreat
open Go Go.Ab
def upd {α:Type} (l:List α) (i:Nat) (f:α→α):List α:=match l[i]? with
 |some a=>l.set i (f a)
 |none=>l
theorem iQ {α:Type} {l:List α} {i:Nat} {f:α→α} {a:α} (h:l[i]? =some a):upd l i f=l.set i (f a):=by unfold upd;rw[h]
theorem Xh {α:Type} {l:List α} {i:Nat} {f:α→α}:(upd l i f).length=l.length:=by
 unfold upd;split<;>simp
def gy (st:List aQ) (trace v:Int):List aQ:=upd st (stripe trace st.length).toNat fun s=>{s with held:=v}
theorem alH {l:List aQ} {i:Nat} {x:aQ} (h:l[i]? =some x):allT l=allT (l.take i)++(x.l++allT (l.drop (i+1))):=by
 conv=>lhs;rw[Bc h]
 simp[allT]
theorem LJ {l:List aQ} {t:Trail}:t∈allT l↔∃ (i:Nat) (x:aQ),l[i]? =some x∧t∈x.l:=by
 unfold allT
 rw[List.mem_flatMap]
 constructor
 ·rintro⟨x,hx,ht⟩
  obtain⟨i,hi⟩:=List.mem_iff_getElem?.1 hx
  exact⟨i,x,hi,ht⟩
 ·rintro⟨i,x,hi,ht⟩
  exact⟨x,List.mem_of_getElem? hi,ht⟩
abbrev IQ (a b:Trail):Prop:=a.id < b.id
theorem ajU {xs:List Trail} (h:∀ (k:Nat) (t:Trail),xs[k]? =some t→∀ u,0 < k→xs[((k:Int) - 1).toNat]? =some u→¬ t.id≤u.id):xs.Pairwise IQ:=by
 rw[List.pairwise_iff_getElem]
 intro i j hi hj hij
 induction j with
 |zero=>omega
 |succ j ih=>
  have h1:=h (j+1) xs[j+1] (List.getElem?_eq_getElem hj) (xs[j]'(by omega)) (by omega) (by rw[show(((j+1:Nat):Int) - 1).toNat=j by omega];exact List.getElem?_eq_getElem (by omega))
  by_cases e:i=j
  ·subst e;show _ < _;omega
  ·have:=ih (by omega) (by omega)
   show _ < _
   have:xs[i].id < (xs[j]'(by omega)).id:=this
   omega
theorem akd {xs:List Trail} (h:xs.Pairwise IQ):∀ (k:Nat) (t:Trail),xs[k]? =some t→∀ u,0 < k→xs[((k:Int) - 1).toNat]? =some u→¬ t.id≤u.id:=by
 intro k t ht u hk hu
 rw[List.pairwise_iff_getElem] at h
 obtain⟨h1,rfl⟩:=List.getElem?_eq_some_iff.1 ht
 obtain⟨h2,rfl⟩:=List.getElem?_eq_some_iff.1 hu
 have:=h _ k h2 h1 (by omega)
 unfold IQ at this
 omega
def LX (l:List aQ):Prop:=(1≤(l.length:Int)∧(l.length:Int)≤3)∧
 (∀ (i:Nat) (x:aQ),l[i]? =some x→(-1≤x.held∧x.held≤4)∧(∀ t∈x.l,Gu t∧stripe t.id l.length=i)∧x.l.Pairwise IQ)∧((allT l).map (·.stamp)).Nodup
theorem ajl {α:Type} {xs:List α} {y:α}:(xs++[y]).Nodup↔xs.Nodup∧y ∉ xs:=by
 rw[List.nodup_append]
 constructor
 ·rintro⟨h1,-,h3⟩
  exact⟨h1,fun hy=>h3 y hy y (by simp) rfl⟩
 ·rintro⟨h1,h2⟩
  exact⟨h1,by simp,fun a ha b hb e=>h2 (by rw[List.mem_singleton.1 hb] at e;exact e▸ha)⟩
theorem Sj {l:List aQ}:A9 l↔LX l:=by
 unfold A9 LX
 constructor
 ·rintro⟨h1,h2⟩
  refine⟨h1,fun i x hx=>?_,?_⟩
  ·obtain⟨a1,a2⟩:=h2 i x hx
   refine⟨a1,fun t ht=>?_,ajU fun k t ht u hk hu=>(a2 k t ht).2.2.1 u hk hu⟩
   obtain⟨k,hk⟩:=List.mem_iff_getElem?.1 ht
   exact⟨(a2 k t hk).1,(a2 k t hk).2.1⟩
  ·have:∀ i,i≤l.length→((allT (l.take i)).map (·.stamp)).Nodup:=by
    intro i
    induction i with
    |zero=>intro _;simp[allT]
    |succ i ih=>
     intro hi
     obtain⟨x,hx,-,htk⟩:=aP (show i < l.length by omega)
     obtain⟨a1,a2⟩:=h2 i x hx
     have inner:∀ k,k≤x.l.length→((allT (l.take i)++x.l.take k).map (·.stamp)).Nodup:=by
      intro k
      induction k with
      |zero=>intro _;simpa using ih (by omega)
      |succ k ihk=>
       intro hk
       obtain⟨t,ht,-,nY⟩:=aP (show k < x.l.length by omega)
       rw[nY,←List.append_assoc,List.map_append,List.map_singleton,ajl]
       exact⟨ihk (by omega),(a2 k t ht).2.2.2⟩
     rw[Cb htk]
     simpa using inner x.l.length (Nat.le_refl _)
   simpa using this l.length (Nat.le_refl _)
 ·rintro⟨h1,h2,h3⟩
  refine⟨h1,fun i x hx=>?_⟩
  obtain⟨a1,a2,a3⟩:=h2 i x hx
  refine⟨a1,fun k t ht=>⟨(a2 t (List.mem_of_getElem? ht)).1,(a2 t (List.mem_of_getElem? ht)).2,fun u hk hu=>akd a3 k t ht u hk hu,?_⟩⟩
  rw[alH hx,Bc ht] at h3
  have e:allT (l.take i)++(x.l.take k++t::x.l.drop (k+1)++allT (l.drop (i+1)))=(allT (l.take i)++x.l.take k)++([t]++(x.l.drop (k+1)++allT (l.drop (i+1)))):=by simp
  rw[e,List.map_append] at h3
  have:=(List.nodup_append.1 h3).2.2
  intro hm
  exact this _ hm t.stamp (by simp) rfl
section
variable{l:List aQ} {i:Nat} {x x':aQ}
theorem lu (h:1≤(l.length:Int)) (id:Int):∃ y,l[(stripe id l.length).toNat]? =some y:=by
 have:=iU (t:=id) h
 exact⟨l[(stripe id l.length).toNat]'(by omega),List.getElem?_eq_getElem _⟩
theorem qC {tr v:Int} {y:aQ} (h:l[(stripe tr l.length).toNat]? =some y):gy l tr v=l.set (stripe tr l.length).toNat {y with held:=v}:=iQ h
theorem WJ {α:Type} {p:α→Bool} {xs:List α} (h: ¬ idx p xs < 0):∃ (j:Nat) (t:α),idx p xs=(j:Int)∧xs[j]? =some t∧p t=true∧∀ k y,k < j→xs[k]? =some y→p y=false:=by
 unfold idx at h ⊢
 split at h
 ·rename_i hl
  refine⟨xs.findIdx p,xs[xs.findIdx p],by rw[if_pos hl],List.getElem?_eq_getElem hl,List.findIdx_getElem,fun k y hk hy=>?_⟩
  obtain⟨hk',rfl⟩:=List.getElem?_eq_some_iff.1 hy
  exact List.not_of_lt_findIdx hk
 ·omega
theorem akE {α:Type} {p:α→Bool} {xs:List α} (h:idx p xs < 0):∀ y∈xs,p y=false:=by
 unfold idx at h
 split at h
 ·omega
 ·rename_i hl
  have:xs.findIdx p=xs.length:=by have:=List.findIdx_le_length (xs:=xs) (p:=p);omega
  rw[List.findIdx_eq_length] at this
  exact this
theorem xV {id:Int} {o:Trail} (h:fq l id=some o):∃ (y:aQ) (j:Nat),l[(stripe id l.length).toNat]? =some y∧y.l[j]? =some o∧idx (isId id) y.l=(j:Int)∧o.id=id:=by
 unfold fq at h
 cases hy:l[(stripe id l.length).toNat]? with
 |none=>rw[hy] at h;cases h
 |some y=>
  rw[hy] at h
  simp only[tq] at h
  split at h
  ·cases h
  ·rename_i hn
   obtain⟨j,t,hj,ht,hp,-⟩:=WJ hn
   rw[hj,Int.toNat_natCast,ht] at h
   cases h
   exact⟨y,j,rfl,ht,hj,by simpa[isId] using hp⟩
theorem WM {id:Int} {o:Trail} (h:fq l id=some o):o∈allT l∧o.id=id:=by
 obtain⟨y,j,hy,hj,-,he⟩:=xV h
 exact⟨LJ.2 ⟨_,y,hy,List.mem_of_getElem? hj⟩,he⟩
theorem drop_at {id:Int} {o:Trail} (h:fq l id=some o):∃ (y:aQ) (j:Nat),l[(stripe id l.length).toNat]? =some y∧y.l[j]? =some o∧gN l id=l.set (stripe id l.length).toNat {y with l:=y.l.eraseIdx j}:=by
 obtain⟨y,j,hy,hj,hi,-⟩:=xV h
 exact⟨y,j,hy,hj,by rw[Ma hy (by omega),hi,Int.toNat_natCast]⟩
theorem yD {id:Int}:(gN l id).length=l.length:=by
 unfold gN
 split
 ·rfl
 ·split<;>simp
theorem WU {id:Int} {o:Trail} (h:fq l id=some o) {j:Nat} {s:aQ} (hs:(gN l id)[j]? =some s):∃ y,l[j]? =some y∧s.held=y.held∧s.l.Sublist y.l:=by
 obtain⟨y,k,hy,hk,hd⟩:=drop_at h
 rw[hd,List.getElem?_set] at hs
 split at hs
 ·rename_i e
  split at hs
  ·cases hs;subst e;exact⟨y,hy,rfl,List.eraseIdx_sublist _ _⟩
  ·cases hs
 ·exact⟨s,hs,rfl,List.Sublist.refl _⟩
end
end Go.Proofs.YtkdjapahgmflbaaGreat
end
