import Derived.Shelf.Spec.SlicesInsert
import Derived.WalkKit
import Derived.Lib.Walk
import Derived.Lib.SliceRun
import Derived.Lib.Overlaps
import Derived.Lib.AppendZerosOnto
import Derived.Laws.Externs
import Derived.Laws.IdiomCopy
import Derived.Laws.CopyRow
import Derived.Laws.NewBlocks
import Derived.Test.YtekfdoknfcedpaaGreatDNm
import Derived.Test.YtekfdoknfcedpaaGreatDKW1
import Derived.Test.YtekfdoknfcedpaaGreatDK5
section
set_option linter.unusedVariables false
set_option linter.unusedSimpArgs false
namespace Go.Proofs.YtekfdoknfcedpaaGreat
open Go Go.RowKit Go.Lib Go.Ab
section
end
end Go.Proofs.YtekfdoknfcedpaaGreat
end
section
set_option linter.unusedSimpArgs false
set_option linter.unusedVariables false
set_option maxHeartbeats 2000000
namespace Go.Proofs.YtekfdoknfcedpaaGreat
open Go Go.Ab
section
end
end Go.Proofs.YtekfdoknfcedpaaGreat
end
section
set_option linter.unusedSimpArgs false
set_option linter.unusedVariables false
namespace Go.Proofs.YtekfdoknfcedpaaGreat
open Go Go.Ab
def upd {α:Type} (l:List α) (i:Nat) (f:α→α):List α:=match l[i]? with
 |some a=>l.set i (f a)
 |none=>l
theorem kX {α:Type} {l:List α} {i:Nat} {f:α→α} {a:α} (h:l[i]? =some a):upd l i f=l.set i (f a):=by unfold upd;rw[h]
theorem xX {α:Type} {l:List α} {i:Nat} {f:α→α}:(upd l i f).length=l.length:=by
 unfold upd;split<;>simp
def jQ (st:List aU) (trace v:Int):List aU:=upd st (stripe trace st.length).toNat fun s=>{s with held:=v}
theorem alz {l:List aU} {i:Nat} {x:aU} (h:l[i]? =some x):allT l=allT (l.take i)++(x.l++allT (l.drop (i+1))):=by
 conv=>lhs;rw[xK h]
 simp[allT]
theorem JN {l:List aU} {t:Trail}:t∈allT l↔∃ (i:Nat) (x:aU),l[i]? =some x∧t∈x.l:=by
 unfold allT
 rw[List.mem_flatMap]
 constructor
 ·rintro⟨x,hx,ht⟩
  obtain⟨i,hi⟩:=List.mem_iff_getElem?.1 hx
  exact⟨i,x,hi,ht⟩
 ·rintro⟨i,x,hi,ht⟩
  exact⟨x,List.mem_of_getElem? hi,ht⟩
abbrev Gg (a b:Trail):Prop:=a.id < b.id
theorem ajR {xs:List Trail} (h:∀ (k:Nat) (t:Trail),xs[k]? =some t→∀ u,0 < k→xs[((k:Int) - 1).toNat]? =some u→¬ t.id≤u.id):xs.Pairwise Gg:=by
 rw[List.pairwise_iff_getElem]
 intro i j hi hj hij
 induction j with
 |zero=>omega
 |succ j ih=>
  have h1:=h (j+1) xs[j+1] (List.getElem?_eq_getElem hj) (xs[j]'(by omega)) (by omega) (by rw[show(((j+1:Nat):Int) - 1).toNat=j by omega];exact List.getElem?_eq_getElem (by omega))
  by_cases e:i=j
  ·subst e;show _ < _;omega
  ·have:=ih (by omega) (by omega)
   show _ < _
   have:xs[i].id < (xs[j]'(by omega)).id:=this
   omega
theorem aj8 {xs:List Trail} (h:xs.Pairwise Gg):∀ (k:Nat) (t:Trail),xs[k]? =some t→∀ u,0 < k→xs[((k:Int) - 1).toNat]? =some u→¬ t.id≤u.id:=by
 intro k t ht u hk hu
 rw[List.pairwise_iff_getElem] at h
 obtain⟨h1,rfl⟩:=List.getElem?_eq_some_iff.1 ht
 obtain⟨h2,rfl⟩:=List.getElem?_eq_some_iff.1 hu
 have:=h _ k h2 h1 (by omega)
 unfold Gg at this
 omega
def JY (l:List aU):Prop:=(1≤(l.length:Int)∧(l.length:Int)≤3)∧
 (∀ (i:Nat) (x:aU),l[i]? =some x→(-1≤x.held∧x.held≤4)∧(∀ t∈x.l,D9 t∧stripe t.id l.length=i)∧x.l.Pairwise Gg)∧((allT l).map (·.stamp)).Nodup
theorem aji {α:Type} {xs:List α} {y:α}:(xs++[y]).Nodup↔xs.Nodup∧y ∉ xs:=by
 rw[List.nodup_append]
 constructor
 ·rintro⟨h1,-,h3⟩
  exact⟨h1,fun hy=>h3 y hy y (by simp) rfl⟩
 ·rintro⟨h1,h2⟩
  exact⟨h1,by simp,fun a ha b hb e=>h2 (by rw[List.mem_singleton.1 hb] at e;exact e▸ha)⟩
theorem P8 {l:List aU}:xH l↔JY l:=by
 unfold xH JY
 constructor
 ·rintro⟨h1,h2⟩
  refine⟨h1,fun i x hx=>?_,?_⟩
  ·obtain⟨a1,a2⟩:=h2 i x hx
   refine⟨a1,fun t ht=>?_,ajR fun k t ht u hk hu=>(a2 k t ht).2.2.1 u hk hu⟩
   obtain⟨k,hk⟩:=List.mem_iff_getElem?.1 ht
   exact⟨(a2 k t hk).1,(a2 k t hk).2.1⟩
  ·have:∀ i,i≤l.length→((allT (l.take i)).map (·.stamp)).Nodup:=by
    intro i
    induction i with
    |zero=>intro _;simp[allT]
    |succ i ih=>
     intro hi
     obtain⟨x,hx,-,htk⟩:=aR (show i < l.length by omega)
     obtain⟨a1,a2⟩:=h2 i x hx
     have inner:∀ k,k≤x.l.length→((allT (l.take i)++x.l.take k).map (·.stamp)).Nodup:=by
      intro k
      induction k with
      |zero=>intro _;simpa using ih (by omega)
      |succ k ihk=>
       intro hk
       obtain⟨t,ht,-,rZ⟩:=aR (show k < x.l.length by omega)
       rw[rZ,←List.append_assoc,List.map_append,List.map_singleton,aji]
       exact⟨ihk (by omega),(a2 k t ht).2.2.2⟩
     rw[Fe htk]
     simpa using inner x.l.length (Nat.le_refl _)
   simpa using this l.length (Nat.le_refl _)
 ·rintro⟨h1,h2,h3⟩
  refine⟨h1,fun i x hx=>?_⟩
  obtain⟨a1,a2,a3⟩:=h2 i x hx
  refine⟨a1,fun k t ht=>⟨(a2 t (List.mem_of_getElem? ht)).1,(a2 t (List.mem_of_getElem? ht)).2,fun u hk hu=>aj8 a3 k t ht u hk hu,?_⟩⟩
  rw[alz hx,xK ht] at h3
  have e:allT (l.take i)++(x.l.take k++t::x.l.drop (k+1)++allT (l.drop (i+1)))=(allT (l.take i)++x.l.take k)++([t]++(x.l.drop (k+1)++allT (l.drop (i+1)))):=by simp
  rw[e,List.map_append] at h3
  have:=(List.nodup_append.1 h3).2.2
  intro hm
  exact this _ hm t.stamp (by simp) rfl
section
variable{l:List aU} {i:Nat} {x x':aU}
theorem CQ (h:1≤(l.length:Int)) (id:Int):∃ y,l[(stripe id l.length).toNat]? =some y:=by
 have:=kL (t:=id) h
 exact⟨l[(stripe id l.length).toNat]'(by omega),List.getElem?_eq_getElem _⟩
theorem yj {tr v:Int} {y:aU} (h:l[(stripe tr l.length).toNat]? =some y):jQ l tr v=l.set (stripe tr l.length).toNat {y with held:=v}:=kX h
theorem JR {tr v:Int}:(jQ l tr v).length=l.length:=xX
theorem akB {α:Type} {p:α→Bool} {xs:List α} (h: ¬ idx p xs < 0):∃ (j:Nat) (t:α),idx p xs=(j:Int)∧xs[j]? =some t∧p t=true∧∀ k y,k < j→xs[k]? =some y→p y=false:=by
 unfold idx at h ⊢
 split at h
 ·rename_i hl
  refine⟨xs.findIdx p,xs[xs.findIdx p],by rw[if_pos hl],List.getElem?_eq_getElem hl,List.findIdx_getElem,fun k y hk hy=>?_⟩
  obtain⟨hk',rfl⟩:=List.getElem?_eq_some_iff.1 hy
  exact List.not_of_lt_findIdx hk
 ·omega
theorem xw {id:Int} {o:Trail} (h:eB l id=some o):∃ (y:aU) (j:Nat),l[(stripe id l.length).toNat]? =some y∧y.l[j]? =some o∧idx (isId id) y.l=(j:Int)∧o.id=id:=by
 unfold eB at h
 cases hy:l[(stripe id l.length).toNat]? with
 |none=>rw[hy] at h;cases h
 |some y=>
  rw[hy] at h
  simp only[uS] at h
  split at h
  ·cases h
  ·rename_i hn
   obtain⟨j,t,hj,ht,hp,-⟩:=akB hn
   rw[hj,Int.toNat_natCast,ht] at h
   cases h
   exact⟨y,j,rfl,ht,hj,by simpa[isId] using hp⟩
theorem akF {id:Int} {o:Trail} (h:eB l id=some o):o∈allT l∧o.id=id:=by
 obtain⟨y,j,hy,hj,-,he⟩:=xw h
 exact⟨JN.2 ⟨_,y,hy,List.mem_of_getElem? hj⟩,he⟩
theorem drop_at {id:Int} {o:Trail} (h:eB l id=some o):∃ (y:aU) (j:Nat),l[(stripe id l.length).toNat]? =some y∧y.l[j]? =some o∧eU l id=l.set (stripe id l.length).toNat {y with l:=y.l.eraseIdx j}:=by
 obtain⟨y,j,hy,hj,hi,-⟩:=xw h
 exact⟨y,j,hy,hj,by rw[DW hy (by omega),hi,Int.toNat_natCast]⟩
theorem xS {id:Int}:(eU l id).length=l.length:=by
 unfold eU
 split
 ·rfl
 ·split<;>simp
theorem akH {id:Int} {o:Trail} (h:eB l id=some o) {j:Nat} {s:aU} (hs:(eU l id)[j]? =some s):∃ y,l[j]? =some y∧s.held=y.held∧s.l.Sublist y.l:=by
 obtain⟨y,k,hy,hk,hd⟩:=drop_at h
 rw[hd,List.getElem?_set] at hs
 split at hs
 ·rename_i e
  split at hs
  ·cases hs;subst e;exact⟨y,hy,rfl,List.eraseIdx_sublist _ _⟩
  ·cases hs
 ·exact⟨s,hs,rfl,List.Sublist.refl _⟩
end
end Go.Proofs.YtekfdoknfcedpaaGreat
end
