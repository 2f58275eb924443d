import Derived.Test.YtekfdoknfcedpaaGreatDW98
import Derived.Test.YtekfdoknfcedpaaGreatDW73
set_option linter.unusedSimpArgs false
set_option linter.unusedVariables false
set_option maxHeartbeats 1000000
namespace Go.Proofs.YtekfdoknfcedpaaGreat
open Go Go.Ab
theorem RI {α:Type} [Sz α] {y:α} {m:Nat}:∀ {l:List α} {i:Nat} {x:α},l[i]? =some x→Sz.sz y≤Sz.sz x+m→szs (l.set i y)≤szs l+m
 |[],i,x,h,_=>by simp at h
 |a::l,0,x,h,hy=>by
  simp at h;subst h
  simp only[List.set_cons_zero,szs];omega
 |a::l,i+1,x,h,hy=>by
  simp at h
  have:=RI (l:=l) h hy
  simp only[List.set_cons_succ,szs];omega
theorem wX {α:Type} [Sz α] {l:List α} {i m:Nat} {f:α→α} (hf:∀ a,Sz.sz (f a)≤Sz.sz a+m):szs (upd l i f)≤szs l+m:=by
 cases h:l[i]? with
 |none=>unfold upd;rw[h];exact Nat.le_add_right _ _
 |some a=>rw[kX h];exact RI h (hf a)
theorem TM {l:List aU} {tr v:Int}:szs (jQ l tr v)≤szs l:=wX (m:=0) fun a=>Nat.le_refl _
theorem ak7 (xs:List bM) (v:bM) (m:Int):(rem xs v m).1.length≤xs.length+1:=by
 unfold rem;split
 ·exact Nat.le_succ _
 ·unfold dY
  have:=List.length_filter_le (fun x=>!isT v.trace x) xs
  simp only[List.length_drop,List.length_append,List.length_singleton];omega
theorem amk (l:List bM):szs l=0:=by
 induction l with
 |nil=>rfl
 |cons a l ih=>show Sz.sz a+szs l=0;rw[ih];rfl
theorem ajq (x:Wld) (o:Trail) (keep:Bool):Sz.sz (jK x o keep)≤Sz.sz x+1:=by
 unfold jK
 rw[wsz,wsz]
 have h1:=akI x.st o.id
 rw[xS] at h1
 have h2:=ak7 x.cache ⟨o.id,o.stamp,keep⟩ x.c.cache
 simp only[xS,amk]
 omega
section
variable{x y:Wld} {k:Nat} {t:Task}
theorem DF (x:Wld) (k:Nat) (t:Task):szs (x.tasks.set k t)≤szs x.tasks+Sz.sz t:=Dy (Nat.le_refl _) _ _
end
end Go.Proofs.YtekfdoknfcedpaaGreat
