import Derived.Test.YtekfdoknfcedpaaGreatDW98
import Derived.Test.YtekfdoknfcedpaaGreatDW73
set_option linter.unusedSimpArgs false
set_option linter.unusedVariables false
set_option maxHeartbeats 1000000
namespace Go.Proofs.YtekfdoknfcedpaaGreat
open Go Go.Ab
theorem Sm {α:Type} [Sz α] {y:α} {m:Nat}:∀ {l:List α} {i:Nat} {x:α},l[i]? =some x→Sz.sz y≤Sz.sz x+m→szs (l.set i y)≤szs l+m
 |[],i,x,h,_=>by simp at h
 |a::l,0,x,h,hy=>by
  simp at h;subst h
  simp only[List.set_cons_zero,szs];omega
 |a::l,i+1,x,h,hy=>by
  simp at h
  have:=Sm (l:=l) h hy
  simp only[List.set_cons_succ,szs];omega
theorem JW {α:Type} [Sz α] {l:List α} {i m:Nat} {f:α→α} (hf:∀ a,Sz.sz (f a)≤Sz.sz a+m):szs (upd l i f)≤szs l+m:=by
 cases h:l[i]? with
 |none=>unfold upd;rw[h];exact Nat.le_add_right _ _
 |some a=>rw[kQ h];exact Sm h (hf a)
theorem zJ {l:List aM} {tr v:Int}:szs (gU l tr v)≤szs l:=JW (m:=0) fun a=>Nat.le_refl _
theorem Fg (x:Wld) (k:Nat) (t:Task) (code stamp:Int):Sz.sz (lq x k t code stamp)≤Sz.sz x:=by
 unfold lq
 rw[wsz,wsz]
 have h1:szs (upd x.aI t.h.toNat fun d=>{d with code:=code,stamp:=stamp,lin:=x.time,res:=x.time,now:=x.w.now})≤szs x.aI+0:=JW fun a=>Nat.le_refl _
 have h2:=zJ (l:=x.st) (tr:=t.s.trace) (v:=-1)
 have h3:szs (x.tasks.set k xk)≤szs x.tasks+0:=KC (Nat.le_refl _) _ _
 simp only[List.length_set,zL,zw]
 omega
theorem akY (w:bD) (t:Ab.Timer):Sz.sz (dP w t)≤Sz.sz w+1:=by
 unfold dP;split
 ·exact KS w t
 ·exact Nat.le_succ _
theorem akq (x:Wld) (t:Task):Sz.sz (gZ x t)≤Sz.sz x+(Sz.sz t.s+3):=by
 have hw:∀ w:bD,Sz.sz w=(w.near.length+szs w.near)+(w.far.length+szs w.far)+(w.rest.length+szs w.rest):=fun _=>rfl
 unfold gZ
 rw[wsz,wsz,←hw,←hw]
 have h1:szs (upd x.st (stripe t.s.trace x.st.length).toNat fun s=>{s with l:=iE s.l t.s (gG x t) x.w.now})≤szs x.st+(Sz.sz t.s+2):=JW fun a=>by
  have e:∀ s:aM,Sz.sz s=s.l.length+szs s.l:=fun _=>rfl
  rw[e,e]
  have:=akE a.l t.s (gG x t) x.w.now
  show(iE a.l t.s (gG x t) x.w.now).length+szs (iE a.l t.s (gG x t) x.w.now)≤_
  omega
 have h2:Sz.sz (if fF x.st t.s.trace=true then x.w else dP x.w ⟨x.next,t.s.trace,gV x.w.now x.c.wait⟩)≤Sz.sz x.w+1:=by
  split
  ·exact Nat.le_succ _
  ·exact akY _ _
 simp only[zL]
 omega
theorem akX (xs:List bg) (v:bg) (m:Int):(rem xs v m).1.length≤xs.length+1:=by
 unfold rem;split
 ·exact Nat.le_succ _
 ·unfold fG
  have:=List.length_filter_le (fun x=>!isT v.trace x) xs
  simp only[List.length_drop,List.length_append,List.length_singleton];omega
theorem ame (l:List bg):szs l=0:=by
 induction l with
 |nil=>rfl
 |cons a l ih=>show Sz.sz a+szs l=0;rw[ih];rfl
theorem ajb (x:Wld) (o:Trail) (keep:Bool):Sz.sz (qW x o keep)≤Sz.sz x+1:=by
 unfold qW
 rw[wsz,wsz]
 have h1:=akx x.st o.id
 rw[zK] at h1
 have h2:=akX x.cache ⟨o.id,o.stamp,keep⟩ x.c.cache
 simp only[zK,ame]
 omega
theorem aje (w:bD) (id:Int):Sz.sz (fU w id)≤Sz.sz w:=by
 unfold fU;split
 ·exact TS w id
 ·exact Nat.le_refl _
section
variable{x y:Wld} {k:Nat} {t:Task}
theorem akc (x:Wld) (k:Nat) (t:Task):szs (x.tasks.set k t)≤szs x.tasks+Sz.sz t:=KC (Nat.le_refl _) _ _
theorem akw:Sz.sz (gu x t k)≤Sz.sz x+2:=by
 unfold gu;split
 ·have h1:=ajb x (dx x.st t.trace) false
  have h2:=aje x.w (dx x.st t.trace).stamp
  have hw:∀ w:bD,Sz.sz w=(w.near.length+szs w.near)+(w.far.length+szs w.far)+(w.rest.length+szs w.rest):=fun _=>rfl
  have h4:szs (x.aI++[⟨3,k,uq,(dx x.st t.trace).id,(dx x.st t.trace).stamp,0,false,false,0,(dx x.st t.trace).spans.length,qV x (dx x.st t.trace) false,x.w.now,x.time,x.time,x.time⟩])=szs x.aI+0:=by rw[lK];rfl
  obtain⟨f,hf⟩:∃ f,f=qW x (dx x.st t.trace) false:=⟨_,rfl⟩
  have e1:f.aI=x.aI:=by rw[hf];rfl
  have e2:f.w=x.w:=by rw[hf];rfl
  rw[←hf] at h1 ⊢
  rw[wsz f,e1,e2] at h1
  rw[hw,hw] at h2
  rw[wsz]
  simp only[List.length_append,List.length_singleton,h4]
  omega
 ·exact Nat.le_add_right _ _
theorem ajD (ht:x.tasks[k]? =some t) (h:gJ x k t=some y):Sz.sz y≤4 * Sz.sz x+100:=by
 have hT:=bf (List.mem_of_getElem? ht)
 have e:Sz.sz t=Sz.sz t.s+(t.hand.length+szs t.hand):=rfl
 have hX:Sz.sz t≤Sz.sz x:=by rw[wsz];omega
 have st:∀ t':Task,Sz.sz t'=Sz.sz t→∀ (z:Wld) (l:List aM),l.length=z.st.length→szs l≤szs z.st→z.tasks=x.tasks→Sz.sz ({z with st:=l,tasks:=x.tasks.set k t'}:Wld)≤Sz.sz z+Sz.sz t:=fun t' e' z l hl hs hz=>by
  have:=akc x k t'
  rw[wsz,wsz,hz]
  simp only[List.length_set,hl]
  omega
 unfold gJ at h
 split at h
 ·split at h
  ·cases h
  ·cases h
   have:=st {t with pc:=1} rfl x _ zw (zJ (tr:=t.s.trace) (v:=k)) rfl
   omega
 split at h
 ·unfold lookW at h
  split at h
  ·cases h;have:=Fg x k t 4 0;omega
  split at h
  ·split at h
   ·split at h
    ·cases h
    ·cases h
     have h1:=Fg {x with queue:=x.queue++[⟨(vOf x.cache t.s.trace).1.stamp,t.s⟩]} k t 2 (vOf x.cache t.s.trace).1.stamp
     have h2:Sz.sz ({x with queue:=x.queue++[⟨(vOf x.cache t.s.trace).1.stamp,t.s⟩]}:Wld)=Sz.sz x+(Sz.sz t.s+1):=by
      have e4:szs (x.queue++[⟨(vOf x.cache t.s.trace).1.stamp,t.s⟩])=szs x.queue+(Sz.sz t.s+0):=by rw[lK];rfl
      rw[wsz,wsz];simp only[e4,List.length_append,List.length_singleton];omega
     omega
   ·cases h;have:=Fg x k t 3 (vOf x.cache t.s.trace).1.stamp;omega
  split at h
  ·cases h
   have:=st {t with pc:=2} rfl x _ zw (zJ (tr:=t.s.trace) (v:=-1)) rfl
   omega
  ·cases h
   have h1:=Fg (gZ x t) k t 1 (gG x t);have h2:=akq x t;omega
 split at h
 ·unfold nQ at h
  split at h
  ·cases h
   have:=st {t with pc:=0} rfl x x.st rfl (Nat.le_refl _) rfl
   exact Nat.le_trans this (by omega)
  ·rename_i o _
   split at h
   ·cases h
   ·cases h
    have:=st {t with pc:=3,trace:=o.id,stamp:=o.stamp} rfl x _ zw (zJ (tr:=o.id) (v:=k)) rfl
    omega
 ·cases h
  have h1:=akw (x:=x) (k:=k) (t:=t)
  have hz:(gu x t k).tasks=x.tasks:=by unfold gu;split<;>rfl
  have:=st {t with pc:=0,trace:=0,stamp:=0} rfl (gu x t k) _ zw (zJ (tr:=t.trace) (v:=-1)) hz
  exact Nat.le_trans this (by omega)
theorem ai2 (x:Wld) (k:Int):Sz.sz (nN x k).1≤4 * Sz.sz x+100:=by
 by_cases h:Gs x k
 ·obtain⟨k',rfl⟩:∃ k':Nat,k=k':=⟨k.toNat,by have:=h.2.1;omega⟩
  obtain⟨t,ht,-⟩:=h.2.2
  rw[Int.toNat_natCast] at ht
  rw[Km h ht]
  cases hL:gJ x k' t with
  |none=>show Sz.sz x≤_;omega
  |some z=>have:=ajD ht hL;exact this
 ·rw[zu h];show Sz.sz x≤_;omega
end
end Go.Proofs.YtekfdoknfcedpaaGreat
