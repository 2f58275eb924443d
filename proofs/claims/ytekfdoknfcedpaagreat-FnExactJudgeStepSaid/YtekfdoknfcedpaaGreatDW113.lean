import Derived.Test.YtekfdoknfcedpaaGreatDW111
import Derived.Test.YtekfdoknfcedpaaGreatDW100
set_option linter.unusedSimpArgs false
set_option linter.unusedVariables false
set_option maxHeartbeats 1000000
namespace Go.Proofs.YtekfdoknfcedpaaGreat
open Go Go.Ab
theorem UH (x:Wld) (k:Nat) (t:Task) (hand:List Itm):Sz.sz (nO x k t hand)≤Sz.sz x+(Sz.sz t.s+(hand.length+szs hand)):=by
 unfold nO
 rw[wsz,wsz]
 have h2:=TM (l:=x.st) (tr:=t.trace) (v:=-1)
 have h1:szs (upd x.aH t.h.toNat fun d=>{d with res:=x.time})≤szs x.aH+0:=wX fun a=>Nat.le_refl _
 have h3:szs (x.tasks.set k kr)≤szs x.tasks+0:=Dy (Nat.le_refl _) _ _
 have h4:szs (x.tasks.set k {t with pc:=3,hand:=hand})≤szs x.tasks+(Sz.sz t.s+(hand.length+szs hand)):=DF x k _
 by_cases hl:hand.length=0
 ·simp only[hl,if_true,List.length_set,xX,JR];omega
 ·simp only[hl,if_false,List.length_set,JR];omega
theorem ake (l:List Span) (st:Int):szs (l.map fun s=>(⟨st,s⟩:Itm))=szs l:=by
 induction l with
 |nil=>rfl
 |cons a l ih=>show Sz.sz a+szs (l.map fun s=>(⟨st,s⟩:Itm))=Sz.sz a+szs l;rw[ih]
section
variable{x y:Wld} {k:Nat} {t:Task}
theorem ak3 (ht:x.tasks[k]? =some t):Sz.sz (jW x k t)≤3 * Sz.sz x+10:=by
 have hT:=bI (List.mem_of_getElem? ht)
 have e:Sz.sz t=Sz.sz t.s+(t.hand.length+szs t.hand):=rfl
 have hX:Sz.sz t≤Sz.sz x:=by rw[wsz];omega
 unfold jW
 by_cases hit:pF x t
 ·rw[eD hit,if_pos rfl]
  obtain⟨o,ho⟩:∃ o,eB x.st t.trace=some o:=by have:=hit.1;unfold iY at this;exact Option.isSome_iff_exists.1 this
  have hoo:=(pI ho).1
  have hso:Sz.sz o≤Sz.sz x:=by
   obtain⟨yo,jo,hyo,hjo,-,-⟩:=xw ho
   have a1:=bI (List.mem_of_getElem? hyo);have a2:=bI (List.mem_of_getElem? hjo)
   have e1:Sz.sz yo=yo.l.length+szs yo.l:=rfl
   rw[wsz];omega
  have hsl:Sz.sz o=o.spans.length+szs o.spans:=rfl
  have h3:(gM x t).length+szs (gM x t)≤Sz.sz x:=by
   unfold gM;rw[hoo]
   split
   ·rw[List.length_map,ake];omega
   ·exact Nat.zero_le _
  rw[hoo]
  have h1:=UH {jK x o (fI x t) with
   b:=ko (qb x) (jX x t)
   aH:=upd x.aH t.h.toNat fun d=>{d with keep:=fI x t,took:=jX x t,n:=o.spans.length,forgot:=gU x o (fI x t),lin:=x.time,now:=x.w.now}} k t (gM x t)
  have h2:=ajq x o (fI x t)
  have h4:szs (upd x.aH t.h.toNat fun d=>{d with keep:=fI x t,took:=jX x t,n:=o.spans.length,forgot:=gU x o (fI x t),lin:=x.time,now:=x.w.now})≤szs x.aH+0:=wX fun a=>Nat.le_refl _
  have h5:Sz.sz ({jK x o (fI x t) with
   b:=ko (qb x) (jX x t)
   aH:=upd x.aH t.h.toNat fun d=>{d with keep:=fI x t,took:=jX x t,n:=o.spans.length,forgot:=gU x o (fI x t),lin:=x.time,now:=x.w.now}}:Wld)≤Sz.sz x+1:=by
   obtain⟨f,hf⟩:∃ f,f=jK x o (fI x t):=⟨_,rfl⟩
   have e1:f.aH=x.aH:=by rw[hf];rfl
   rw[←hf] at h2 ⊢
   rw[wsz f,e1] at h2
   rw[wsz]
   simp only[xX]
   omega
  omega
 ·rw[fU hit,if_neg (by decide)]
  have h1:=UH {x with aH:=upd x.aH t.h.toNat fun d=>{d with void:=true,lin:=x.time,now:=x.w.now}} k t []
  have h4:szs (upd x.aH t.h.toNat fun d=>{d with void:=true,lin:=x.time,now:=x.w.now})≤szs x.aH+0:=wX fun a=>Nat.le_refl _
  have h5:Sz.sz ({x with aH:=upd x.aH t.h.toNat fun d=>{d with void:=true,lin:=x.time,now:=x.w.now}}:Wld)≤Sz.sz x:=by
   rw[wsz,wsz];simp only[xX];omega
  have h6:([]:List Itm).length+szs ([]:List Itm)=0:=rfl
  omega
theorem ajZ (ht:x.tasks[k]? =some t) (h:eZ x k t=some y):Sz.sz y≤4 * Sz.sz x+100:=by
 have hT:=bI (List.mem_of_getElem? ht)
 have e:Sz.sz t=Sz.sz t.s+(t.hand.length+szs t.hand):=rfl
 have hX:Sz.sz t≤Sz.sz x:=by rw[wsz];omega
 unfold eZ at h
 split at h
 ·split at h
  ·cases h
  ·cases h
   have h1:=TM (l:=x.st) (tr:=t.trace) (v:=k)
   have h2:szs (x.tasks.set k {t with pc:=1})≤szs x.tasks+Sz.sz t:=DF x k _
   have h3:=hX
   rw[wsz] at h3 ⊢
   simp only[List.length_set,JR]
   rw[wsz];omega
 split at h
 ·split at h
  ·cases h
  ·cases h
   have h2:szs (x.tasks.set k {t with pc:=2})≤szs x.tasks+Sz.sz t:=DF x k _
   have h3:=hX
   rw[wsz] at h3 ⊢
   simp only[List.length_set]
   rw[wsz];omega
 split at h
 ·cases h
  have:=ak3 ht;omega
 ·cases hh:t.hand with
  |nil=>unfold mg at h;rw[hh] at h;cases h
  |cons a ys=>
   rw[Ke hh] at h
   split at h
   ·cases h
   ·cases h
    have hz:t.hand.length+szs t.hand=(ys.length+1)+(Sz.sz a+szs ys):=by rw[hh];rfl
    have h1:szs (upd x.aH t.h.toNat fun d=>{d with res:=x.time})≤szs x.aH+0:=wX fun a=>Nat.le_refl _
    have h3:szs (x.tasks.set k kr)≤szs x.tasks+0:=Dy (Nat.le_refl _) _ _
    have h4:szs (x.tasks.set k {t with hand:=ys})≤szs x.tasks+(Sz.sz t.s+(ys.length+szs ys)):=DF x k _
    have h5:szs (x.queue++[a])=szs x.queue+(Sz.sz a+0):=by rw[Kc];rfl
    have h6:=hX
    rw[wsz] at h6 ⊢
    by_cases hl:ys.length=0
    ·simp only[hl,if_true,List.length_set,xX,List.length_append,List.length_singleton,h5]
     rw[wsz];omega
    ·simp only[hl,if_false,List.length_set,List.length_append,List.length_singleton,h5]
     rw[wsz];omega
theorem ajm (x:Wld) (k:Int):Sz.sz (lV x k).1≤4 * Sz.sz x+100:=by
 by_cases h:FW x k
 ·obtain⟨k',rfl⟩:∃ k':Nat,k=k':=⟨k.toNat,by have:=h.2.1;omega⟩
  obtain⟨t,ht,-⟩:=h.2.2
  rw[Int.toNat_natCast] at ht
  rw[JU h ht]
  cases hL:eZ x k' t with
  |none=>show Sz.sz x≤_;omega
  |some z=>have:=ajZ ht hL;exact this
 ·rw[xJ h];show Sz.sz x≤_;omega
end
end Go.Proofs.YtekfdoknfcedpaaGreat
