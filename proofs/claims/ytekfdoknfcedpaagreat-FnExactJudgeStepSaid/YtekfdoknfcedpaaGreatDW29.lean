import Derived.Test.YtekfdoknfcedpaaGreatDW26
import Derived.Test.YtekfdoknfcedpaaGreatDKW3
set_option linter.unusedSimpArgs false
set_option linter.unusedVariables false
set_option maxHeartbeats 4000000
namespace Go.Proofs.YtekfdoknfcedpaaGreat
open Go Go.Ab
section
def Pz (x0:AV):Prog:=.op (.box x0) fun a=>Ld 32 a fun b=>Cl AL [b] fun b=>.gop b true (.ldn 32 a) fun c=>.gop b true (.call BQ [c]) fun c=>Pk b c (.bool false) fun b=>.gop b true (.ldn 32 a) fun a=>.gop b true (.call AO [a]) fun a=>Pk b a (.bool false) fun a=>.fin [.val a]
theorem agm (x0:AV):CC Tryz.prog tT [x0] (Pz x0):=cc Tryz.func43
end
theorem akb {w:dN} (h:xW w):∀ t∈timers w,1≤t.id∧(1≤t.trace∧t.trace≤999):=by
 obtain⟨-,h1,h2,h3,h4,-⟩:=h
 intro t ht
 unfold timers at ht
 rcases List.mem_append.1 ht with ht|ht
 ·rcases List.mem_append.1 ht with ht|ht
  ·obtain⟨a,ha,hta⟩:=List.mem_flatten.1 ht
   obtain⟨i,hi⟩:=List.mem_iff_getElem?.1 ha
   have hlt:=(List.getElem?_eq_some_iff.1 hi).1
   obtain⟨b,hb,-,-⟩:=aR (show i < w.far.length by omega)
   have k:=(h4 i a b hi hb).1 t hta
   exact⟨k.1,k.2.1⟩
  ·obtain⟨b,hb,htb⟩:=List.mem_flatten.1 ht
   obtain⟨i,hi⟩:=List.mem_iff_getElem?.1 hb
   have hlt:=(List.getElem?_eq_some_iff.1 hi).1
   obtain⟨a,ha,-,-⟩:=aR (show i < w.near.length by omega)
   have k:=(h4 i a b ha hi).2 t htb
   exact⟨k.1,k.2.1⟩
 ·have k:=h3 t ht
  exact⟨k.1,k.2.1⟩
theorem UF {n:Nat} {l:List Task}:∀ {k:Nat} {hs:List Int} {r:Int},dS n l k=some (hs,r)→-1≤r∧r < k
 |0,hs,r,h=>by simp only[dS,Option.some.injEq,Prod.mk.injEq] at h;omega
 |k+1,hs,r,h=>by
  rcases e:dS n l k with _|⟨hs0,r0⟩
  ·simp[dS,e] at h
  ·rcases e2:l[k]? with _|t
   ·simp[dS,e,e2] at h
   ·have ih:=UF e
    simp only[dS,e,e2,uR] at h
    rcases e3:iV n hs0 k t with _|a
    ·simp[e3] at h
    ·rcases e4:iW r0 k t with _|b
     ·simp[e4] at h
     ·simp only[e3,e4,Option.some.injEq,Prod.mk.injEq] at h
      unfold iW at e4
      split at e4
      ·split at e4
       ·simp at e4;omega
       ·cases e4
      ·simp at e4;omega
theorem J2 {l:List aU} {t:Trail}:t∈allT l↔∃ s∈l,t∈s.l:=by unfold allT;exact List.mem_flatMap
theorem SF {x:Wld}:(EG x∧(-1≤x.bH∧x.bH≤4)∧Wn x)∧Vk x∧Ug x↔oQ x:=by
 have hmem:∀ n,n∈Eb x↔(∃ t∈dJ x,t.id=n)∨(∃ v∈x.cache,v.stamp=n)∨(∃ t∈x.tasks,t.stamp=n)∨∃ t∈allT x.st,t.stamp=n:=by
  intro n;unfold Eb;simp only[List.mem_append,List.mem_map]
 constructor
 ·rintro⟨⟨hv,hr,hd⟩,⟨h5,ht,hl⟩,hk,hn⟩
  refine⟨hv,h5,⟨?_,?_,?_⟩,?_,hl⟩
  ·intro i s hs t hts
   have hm:t∈allT x.st:=J2.2 ⟨s,List.mem_of_getElem? hs,hts⟩
   exact⟨hn _ ((hmem _).2 (.inr (.inr (.inr ⟨t,hm,rfl⟩)))),hk t hm⟩
  ·intro v hv2
   exact hn _ ((hmem _).2 (.inr (.inl ⟨v,hv2,rfl⟩)))
  ·intro t ht2
   have h1:=hn _ ((hmem _).2 (.inl ⟨t,ht2,rfl⟩))
   have h2:1≤t.id∧(1≤t.trace∧t.trace≤999):=by
    rcases List.mem_append.1 ht2 with h|h
    ·exact akb hv.2.2.2.2.2.2.2.2.2.2.2.2.1 t h
    ·exact hd t h
   omega
  ·intro k t hkt
   exact⟨ht k t hkt,hn _ ((hmem _).2 (.inr (.inr (.inl ⟨t,List.mem_of_getElem? hkt,rfl⟩))))⟩
 ·rintro⟨hv,h5,⟨hA,hB,hC⟩,hT,hl⟩
  obtain⟨hs,r,hlk,hh,hr⟩:=hl
  have hrb:=UF hlk
  refine⟨⟨hv,by omega,fun t ht=>?_⟩,⟨h5,fun k t hk=>(hT k t hk).1,hs,r,hlk,hh,hr⟩,fun t ht=>?_,fun n hn=>?_⟩
  ·have:=hC t (List.mem_append_right _ ht);omega
  ·obtain⟨s,hs,hts⟩:=J2.1 ht
   obtain⟨i,hi⟩:=List.mem_iff_getElem?.1 hs
   exact(hA i s hi t hts).2
  ·rcases(hmem n).1 hn with⟨t,ht,rfl⟩|⟨v,hv,rfl⟩|⟨t,ht,rfl⟩|⟨t,ht,rfl⟩
   ·have:=hC t ht;omega
   ·exact hB v hv
   ·obtain⟨i,hi⟩:=List.mem_iff_getElem?.1 ht
    exact(hT i t hi).2
   ·obtain⟨s,hs,hts⟩:=J2.1 ht
    obtain⟨i,hi⟩:=List.mem_iff_getElem?.1 hs
    exact(hA i s hi t hts).1
theorem IJ {h:AH} {x:Wld} {cs:List AV} {F:List Nat} (ok:Cel.ok x) (hs:Sz.sz x≤67108864) (r:Cel.rep h x cs F):
  aN Tryz.prog tT [.agg cs] h (.bool (bp (oQ x))):=by
 obtain⟨v0,v1,v2,v3,v4,v5,v6,v7,v8,v9,v10,F0,F1,F2,F3,F4,F5,F6,F7,F8,F9,F10,rfl,rfl,r0,r1,r2,r3,r4,r5,r6,r7,r8,r9,r10⟩:=r
 refine reader (agm _) (by simp only[old]) ?_
 unfold Pz
 (repeat' first|refine vs ?_|((with_reducible refine aB AL ?_);(refine aX (adl (x:=x) ok hs ⟨_,_,_,_,_,_,_,_,_,_,_,_,_,_,_,_,_,_,_,_,_,_,rfl,rfl,ah,ah,ah,ah,ah,ah,ah,ah,ah,ah,ah⟩) ?_ ?_<;>intro hn))|((with_reducible refine aB BQ ?_);(refine aX (aeY (x:=x) ok hs ⟨_,_,_,_,_,_,_,_,_,_,_,_,_,_,_,_,_,_,_,_,_,_,rfl,rfl,ah,ah,ah,ah,ah,ah,ah,ah,ah,ah,ah⟩) ?_ ?_<;>intro hn))|((with_reducible refine aB AO ?_);(refine aX (adn (x:=x) hs ⟨_,_,_,_,_,_,_,_,_,_,_,_,_,_,_,_,_,_,_,_,_,_,rfl,rfl,ah,ah,ah,ah,ah,ah,ah,ah,ah,ah,ah⟩) ?_ ?_<;>intro hn))|fail)
 all_goals first
  |exact pt (SF.1 ⟨by assumption,by assumption,by assumption⟩)
  |exact pf fun k=>by have k:=SF.2 k;first|exact absurd k.1 (by assumption)|exact absurd k.2.1 (by assumption)|exact absurd k.2.2 (by assumption)
end Go.Proofs.YtekfdoknfcedpaaGreat
