import Derived.Test.YtcgjihfngdhjjaaGreatDK4
set_option linter.unusedSimpArgs false
set_option linter.unusedVariables false
section
namespace Go.Ab
open Go.RowKit
section
variable{α:Type} (key:α→Int)
def Srt (xs:List α):Prop:=xs.Pairwise fun x y=>key x≤key y
def bY (xs ys:List α):Prop:=∀ v:Int,ys.filter (fun x=>decide (key x=v))=xs.filter (fun x=>decide (key x=v))
def ins (x:α):List α→List α
 |[]=>[x]
 |y::l=>if key x < key y then x::y::l else y::ins x l
def bS (xs:List α):List α:=xs.foldl (fun acc x=>ins key x acc) []
end
section
variable{α:Type} {key:α→Int} {xs ys zs us vs ws:List α}
theorem bY.refl:bY key xs xs:=fun _=>rfl
theorem bY.trans (a:bY key xs ys) (b:bY key ys zs):bY key xs zs:=fun v=>(b v).trans (a v)
theorem bY.symm (a:bY key xs ys):bY key ys xs:=fun v=>(a v).symm
theorem bY.app (a:bY key xs ys) (b:bY key us vs):bY key (xs++us) (ys++vs):=fun v=>by
 rw[List.filter_append,List.filter_append,a v,b v]
theorem bY.swap (d:∀ x∈xs,∀ y∈ys,key x≠key y):bY key (xs++ys) (ys++xs):=fun v=>by
 rw[List.filter_append,List.filter_append]
 by_cases hx:∃ x∈xs,key x=v
 ·obtain⟨x,hx,e⟩:=hx
  have:ys.filter (fun x=>decide (key x=v))=[]:=by
   rw[List.filter_eq_nil_iff]
   intro y hy
   have:=d x hx y hy
   simp only[decide_eq_true_eq]
   omega
  rw[this,List.nil_append,List.append_nil]
 ·have:xs.filter (fun x=>decide (key x=v))=[]:=by
   rw[List.filter_eq_nil_iff]
   intro y hy
   simp only[decide_eq_true_eq]
   exact fun e=>hx ⟨y,hy,e⟩
  rw[this,List.nil_append,List.append_nil]
theorem bY.mem (a:bY key xs ys) (x:α):x∈ys↔x∈xs:=by
 have e:=a (key x)
 constructor
 ·intro h
  have:x∈ys.filter (fun y=>decide (key y=key x)):=List.mem_filter.2 ⟨h,by simp⟩
  rw[e] at this
  exact(List.mem_filter.1 this).1
 ·intro h
  have:x∈xs.filter (fun y=>decide (key y=key x)):=List.mem_filter.2 ⟨h,by simp⟩
  rw[←e] at this
  exact(List.mem_filter.1 this).1
theorem bY.uniq:∀ {ys zs:List α},Srt key ys→Srt key zs→bY key ys zs→ys=zs
 |[],zs,_,_,st=>by
  cases zs with
  |nil=>rfl
  |cons z zs=>exact absurd ((st.mem z).1 (by simp)) (by simp)
 |y::ys,zs,sy,sz,st=>by
  cases zs with
  |nil=>exact absurd ((st.mem y).2 (by simp)) (by simp)
  |cons z zs=>
   have sy':=List.pairwise_cons.1 sy
   have sz':=List.pairwise_cons.1 sz
   have h1:key z≤key y:=by
    have:=(st.mem y).2 (by simp)
    rcases List.mem_cons.1 this with e|e
    ·rw[e];exact Int.le_refl _
    ·exact sz'.1 _ e
   have h2:key y≤key z:=by
    have:=(st.mem z).1 (by simp)
    rcases List.mem_cons.1 this with e|e
    ·rw[e];exact Int.le_refl _
    ·exact sy'.1 _ e
   have he:key y=key z:=by omega
   have ht:z=y:=by
    have:=st (key y)
    rw[List.filter_cons_of_pos (by simp[he]),List.filter_cons_of_pos (by simp)] at this
    exact(List.cons.inj this).1
   subst ht
   rw[bY.uniq sy'.2 sz'.2 fun v=>by
    have:=st v
    by_cases hv:key z=v
    ·rw[List.filter_cons_of_pos (by simp[hv]),List.filter_cons_of_pos (by simp[hv])] at this
     exact(List.cons.inj this).2
    ·rw[List.filter_cons_of_neg (by simp[hv]),List.filter_cons_of_neg (by simp[hv])] at this
     exact this]
theorem VT {x y:α}:∀ {l:List α},y∈ins key x l↔y=x∨y∈l
 |[]=>by simp[ins]
 |z::l=>by
  unfold ins
  split
  ·simp
  ·simp only[List.mem_cons,VT (l:=l)]
   constructor
   ·rintro(h|h|h)<;>simp[h]
   ·rintro(h|h|h)<;>simp[h]
theorem VZ {x:α}:∀ {l:List α},Srt key l→Srt key (ins key x l)
 |[],_=>List.pairwise_singleton _ _
 |y::l,s=>by
  have s':=List.pairwise_cons.1 s
  unfold ins
  split
  ·rename_i hlt
   refine List.pairwise_cons.2 ⟨fun z hz=>?_,s⟩
   rcases List.mem_cons.1 hz with e|e
   ·rw[e];omega
   ·have:=s'.1 z e;omega
  ·rename_i hlt
   refine List.pairwise_cons.2 ⟨fun z hz=>?_,VZ s'.2⟩
   rcases VT.1 hz with e|e
   ·rw[e];omega
   ·exact s'.1 z e
theorem U7 {x:α}:∀ {l:List α},Srt key l→bY key (l++[x]) (ins key x l)
 |[],_=>bY.refl
 |y::l,s=>by
  have s':=List.pairwise_cons.1 s
  unfold ins
  split
  ·rename_i hlt
   have:=bY.swap (key:=key) (xs:=y::l) (ys:=[x]) fun a ha b hb=>by
    rw[List.mem_singleton.1 hb]
    rcases List.mem_cons.1 ha with e|e
    ·rw[e];omega
    ·have:=s'.1 a e;omega
   exact this
  ·exact(bY.refl (xs:=[y])).app (U7 s'.2)
theorem V6 {x:α}:∀ {l:List α},(ins key x l).length=l.length+1
 |[]=>rfl
 |y::l=>by
  unfold ins
  split
  ·rfl
  ·simp[V6 (l:=l)]
theorem Lv:∀ (xs acc:List α),Srt key acc→Srt key (xs.foldl (fun acc x=>ins key x acc) acc)∧bY key (acc++xs) (xs.foldl (fun acc x=>ins key x acc) acc)
 |[],acc,s=>⟨s,by rw[List.append_nil];exact bY.refl⟩
 |x::xs,acc,s=>by
  have h:=Lv xs (ins key x acc) (VZ s)
  refine⟨h.1,?_⟩
  have:acc++x::xs=(acc++[x])++xs:=by simp
  rw[this]
  exact((U7 s).app bY.refl).trans h.2
theorem sj:Srt key (bS key xs):=(Lv xs [] List.Pairwise.nil).1
theorem rV:bY key xs (bS key xs):=(Lv xs [] List.Pairwise.nil).2
theorem Br (s:Srt key ys) (st:bY key xs ys):ys=bS key xs:=bY.uniq s sj (st.symm.trans rV)
theorem afp {x:α}:bS key (xs++[x])=ins key x (bS key xs):=by simp[bS,List.foldl_append]
theorem jP:∀ {xs:List α},(bS key xs).length=xs.length:=by
 intro xs
 have:∀ (xs acc:List α),(xs.foldl (fun acc x=>ins key x acc) acc).length=acc.length+xs.length:=by
  intro xs
  induction xs with
  |nil=>intro acc;simp
  |cons x xs ih=>intro acc;simp only[List.foldl_cons,ih,V6,List.length_cons];omega
 simpa[bS] using this xs []
theorem BH {x:α}:x∈bS key xs↔x∈xs:=rV.mem x
theorem Lu (s:Srt key xs):bS key xs=xs:=(Br s bY.refl).symm
theorem Srt.app (a:Srt key xs) (b:Srt key ys) (h:∀ x∈xs,∀ y∈ys,key x≤key y):Srt key (xs++ys):=List.pairwise_append.2 ⟨a,b,h⟩
theorem Srt.l (a:Srt key (xs++ys)):Srt key xs:=(List.pairwise_append.1 a).1
theorem Srt.r (a:Srt key (xs++ys)):Srt key ys:=(List.pairwise_append.1 a).2.1
theorem Srt.lr (a:Srt key (xs++ys)):∀ x∈xs,∀ y∈ys,key x≤key y:=(List.pairwise_append.1 a).2.2
theorem Srt.at_ (a:Srt key xs) {i j:Nat} {x y:α} (hij:i≤j) (hx:xs[i]? =some x) (hy:xs[j]? =some y):key x≤key y:=by
 rcases Nat.lt_or_eq_of_le hij with h|h
 ·have hi:=(List.getElem?_eq_some_iff.1 hx)
  have hj:=(List.getElem?_eq_some_iff.1 hy)
  have:=List.pairwise_iff_getElem.1 a i j hi.1 hj.1 h
  rw[hi.2,hj.2] at this;exact this
 ·subst h;rw[hx] at hy;cases hy;exact Int.le_refl _
theorem agb (h:∀ x∈xs,∀ y∈ys,key x≤key y) (st:bY key us (xs++ys)):bS key xs++bS key ys=bS key us:=by
 refine Br (sj.app sj fun x hx y hy=>h x (BH.1 hx) y (BH.1 hy)) ?_
 exact st.trans (rV.app rV)
theorem ae2 {u:α} (s:Srt key (xs++ys)) (h1:∀ x∈xs,key x < key u) (h2:∀ y∈ys,key u≤key y):bS key (u::(xs++ys))=xs++u::ys:=by
 refine(Br ?_ ?_).symm
 ·refine s.l.app (List.pairwise_cons.2 ⟨h2,s.r⟩) fun x hx y hy=>?_
  rcases List.mem_cons.1 hy with e|e
  ·rw[e];have:=h1 x hx;omega
  ·exact s.lr x hx y e
 ·have a:bY key ([u]++xs) (xs++[u]):=bY.swap fun x hx y hy=>by
   rw[List.mem_singleton.1 hx];have:=h1 y hy;omega
  have:=a.app (bY.refl (xs:=ys))
  simpa using this
theorem afq {u:α} (s:Srt key (xs++ys)) (h1:∀ x∈xs,key x≤key u) (h2:∀ y∈ys,key u < key y):bS key ((xs++ys)++[u])=xs++u::ys:=by
 refine(Br ?_ ?_).symm
 ·refine s.l.app (List.pairwise_cons.2 ⟨fun y hy=>by have:=h2 y hy;omega,s.r⟩) fun x hx y hy=>?_
  rcases List.mem_cons.1 hy with e|e
  ·rw[e];exact h1 x hx
  ·exact s.lr x hx y e
 ·have a:bY key (ys++[u]) ([u]++ys):=bY.swap fun x hx y hy=>by
   rw[List.mem_singleton.1 hy];have:=h2 x hx;omega
  have:=(bY.refl (xs:=xs)).app a
  simpa using this
theorem agc {u1 u2 v1 v2:List α} (su:Srt key (u1++u2)) (sv:Srt key (v1++v2)) (h1:∀ x∈u2,∀ y∈v1,key y < key x) (h2:∀ x∈u1,∀ y∈v2,key x≤key y):
  bS key (u1++v1)++bS key (u2++v2)=bS key ((u1++u2)++(v1++v2)):=by
 refine agb (fun x hx y hy=>?_) ?_
 ·rcases List.mem_append.1 hx with hx|hx<;>rcases List.mem_append.1 hy with hy|hy
  ·exact su.lr x hx y hy
  ·exact h2 x hx y hy
  ·have:=h1 y hy x hx;omega
  ·exact sv.lr x hx y hy
 ·have a:bY key (u2++v1) (v1++u2):=bY.swap fun x hx y hy=>by have:=h1 x hx y hy;omega
  have:=((bY.refl (xs:=u1)).app a).app (bY.refl (xs:=v2))
  simpa using this
end
theorem G9 {α:Type} {U:List α} (hU:0 < U.length):∃ u x,U=u++[x]:=by
 cases h:U.reverse with
 |nil=>rw[List.reverse_eq_nil_iff.1 h] at hU;simp at hU
 |cons x u=>exact⟨u.reverse,x,by have:=congrArg List.reverse h;simpa using this⟩
section
variable{α:Type}
def swp (xs:List α) (i j:Nat):List α:=match xs[i]?,xs[j]? with
 |some x,some y=>(xs.set i y).set j x
 |_,_=>xs
theorem GV (xs:List α) (i j:Nat):(swp xs i j).length=xs.length:=by
 unfold swp;split<;>simp
theorem set_mid {A B:List α} {x y:α} {i:Nat} (hi:i=A.length):(A++x::B).set i y=A++y::B:=by
 subst hi;rw[List.set_append_right _ _ (Nat.le_refl _),Nat.sub_self];rfl
theorem Hz {A M B:List α} {x y:α} {i j:Nat} (hi:i=A.length) (hj:j=A.length+1+M.length):swp (A++x::(M++y::B)) i j=A++y::(M++x::B):=by
 have h1:(A++x::(M++y::B))[i]? =some x:=by rw[hi,List.getElem?_append_right (Nat.le_refl _),Nat.sub_self];rfl
 have h2:(A++x::(M++y::B))[j]? =some y:=by
  have:A++x::(M++y::B)=(A++x::M)++y::B:=by simp
  rw[this,List.getElem?_append_right (by simp;omega)]
  have:j - (A++x::M).length=0:=by simp;omega
  rw[this];rfl
 unfold swp
 rw[h1,h2]
 simp only
 rw[set_mid hi]
 have:A++y::(M++y::B)=(A++y::M)++y::B:=by simp
 rw[this,set_mid (by simp;omega)]
 simp
theorem Vy {A M B:List α} {x y:α} {i j:Nat} (hi:i=A.length) (hj:j=A.length+1+M.length):swp (A++x::(M++y::B)) j i=A++y::(M++x::B):=by
 have h1:(A++x::(M++y::B))[i]? =some x:=by rw[hi,List.getElem?_append_right (Nat.le_refl _),Nat.sub_self];rfl
 have h2:(A++x::(M++y::B))[j]? =some y:=by
  have:A++x::(M++y::B)=(A++x::M)++y::B:=by simp
  rw[this,List.getElem?_append_right (by simp;omega)]
  have:j - (A++x::M).length=0:=by simp;omega
  rw[this];rfl
 have e:=Hz (A:=A) (M:=M) (B:=B) (x:=x) (y:=y) hi hj
 unfold swp at e ⊢
 rw[h1,h2] at e ⊢
 simp only at e ⊢
 rw[List.set_comm _ _ (by omega)];exact e
def swr (xs:List α) (a b:Nat):Nat→List α
 |0=>xs
 |n+1=>swp (swr xs a b n) (a+n) (b+n)
theorem ahN (xs:List α) (a b n:Nat):(swr xs a b n).length=xs.length:=by
 induction n with
 |zero=>rfl
 |succ n ih=>simp only[swr,GV,ih]
theorem ajb {A M B:List α} {b:Nat}:∀ (n:Nat) (U V U' V':List α),U.length=n→V.length=n→U'.length=V'.length→b=A.length+U.length+U'.length+M.length→
  swr (A++((U++U')++(M++((V++V')++B)))) A.length b n=A++((V++U')++(M++((U++V')++B))):=by
 intro n
 induction n with
 |zero=>intro U V U' V' hu hv _ _;rw[List.length_eq_zero_iff.1 hu,List.length_eq_zero_iff.1 hv];rfl
 |succ n ih=>
  intro U V U' V' hu hv hl hb
  obtain⟨u,x,rfl⟩:=G9 (U:=U) (by omega)
  obtain⟨v,y,rfl⟩:=G9 (U:=V) (by omega)
  simp only[List.length_append,List.length_singleton] at hu hv hb
  have:=ih u v (x::U') (y::V') (by omega) (by omega) (by simp[hl]) (by simp;omega)
  simp only[swr]
  have e1:A++(((u++[x])++U')++(M++(((v++[y])++V')++B)))=A++((u++x::U')++(M++((v++y::V')++B))):=by simp
  rw[e1,this]
  have e2:A++((v++x::U')++(M++((u++y::V')++B)))=(A++v)++x::((U'++(M++u))++y::(V'++B)):=by simp
  rw[e2,Hz (by simp;omega) (by simp;omega)]
  simp
theorem L6 {A M B U V:List α} {a b n:Nat} (ha:a=A.length) (hu:U.length=n) (hv:V.length=n) (hb:b=A.length+U.length+M.length):
  swr (A++(U++(M++(V++B)))) a b n=A++(V++(M++(U++B))):=by
 have:=ajb (A:=A) (M:=M) (B:=B) (b:=b) n U V [] [] hu hv rfl (by simpa using hb)
 subst ha
 simpa using this
def mvR (xs:List α) (a:Nat):Nat→List α
 |0=>xs
 |n+1=>swp (mvR xs a n) (a+n) (a+n+1)
theorem ajr {A B:List α} {u:α}:∀ (n:Nat) (V W:List α),V.length=n→mvR (A++u::(V++W++B)) A.length n=A++(V++u::(W++B)):=by
 intro n
 induction n with
 |zero=>intro V W h;rw[List.length_eq_zero_iff.1 h];simp[mvR]
 |succ n ih=>
  intro V W h
  obtain⟨v,y,rfl⟩:=G9 (U:=V) (by omega)
  simp only[List.length_append,List.length_singleton] at h
  have:=ih v (y::W) (by omega)
  simp only[mvR]
  have e1:A++u::((v++[y])++W++B)=A++u::(v++(y::W)++B):=by simp
  rw[e1,this]
  have e2:A++(v++u::((y::W)++B))=(A++v)++u::([]++y::(W++B)):=by simp
  rw[e2,Hz (by simp;omega) (by simp;omega)]
  simp
def mvL (xs:List α) (m:Nat):Nat→List α
 |0=>xs
 |n+1=>swp (mvL xs m n) (m - n) (m - n - 1)
theorem ajs {A B:List α} {u:α} {m:Nat}:∀ (n:Nat) (V W:List α),W.length=n→m=A.length+V.length+W.length→mvL (A++(V++W++u::B)) m n=A++(V++u::(W++B)):=by
 intro n
 induction n with
 |zero=>intro V W h _;rw[List.length_eq_zero_iff.1 h];simp[mvL]
 |succ n ih=>
  intro V W h hm
  cases W with
  |nil=>simp at h
  |cons y w=>
   simp only[List.length_cons] at h hm
   have:=ih (V++[y]) w (by omega) (by simp;omega)
   simp only[mvL]
   have e1:A++(V++y::w++u::B)=A++((V++[y])++w++u::B):=by simp
   rw[e1,this]
   have e2:A++((V++[y])++u::(w++B))=(A++V)++y::([]++u::(w++B)):=by simp
   rw[e2,Vy (by simp;omega) (by simp;omega)]
   simp
end
section
variable{α:Type} {key:α→Int}
theorem V4 {u:α}:∀ {xs ys:List α},(∀ x∈xs,key x≤key u)→(∀ y∈ys,key u < key y)→ins key u (xs++ys)=xs++u::ys
 |[],ys,_,h2=>by
  cases ys with
  |nil=>rfl
  |cons y ys=>simp only[List.nil_append,ins];rw[if_pos (h2 y (by simp))]
 |x::xs,ys,h1,h2=>by
  have:=h1 x (by simp)
  simp only[List.cons_append,ins]
  rw[if_neg (by omega),V4 (fun z hz=>h1 z (by simp[hz])) h2]
theorem ahM {U V:List α} {s H:Nat} (su:Srt key U) (sv:Srt key V) (hs:s≤U.length) (h3:s≤H) (h4:H≤s+V.length)
  (h1:s=0∨H - s=V.length∨∃ x y,U[s - 1]? =some x∧V[H - s]? =some y∧key x≤key y)
  (h2:s=U.length∨s=H∨∃ x y,U[s]? =some x∧V[H - 1 - s]? =some y∧key y < key x):
  bS key (U.take s++V.take (H - s))++bS key (U.drop s++V.drop (H - s))=bS key (U++V):=by
 have:=agc (key:=key) (u1:=U.take s) (u2:=U.drop s) (v1:=V.take (H - s)) (v2:=V.drop (H - s)) (by rw[List.take_append_drop];exact su) (by rw[List.take_append_drop];exact sv) ?_ ?_
 ·rw[List.take_append_drop,List.take_append_drop] at this;exact this
 ·intro x hx y hy
  obtain⟨i,hi⟩:=List.mem_iff_getElem?.1 hx
  obtain⟨j,hj⟩:=List.mem_iff_getElem?.1 hy
  rw[List.getElem?_drop] at hi
  rw[List.getElem?_take] at hj
  split at hj
  ·rename_i hlt
   have hil:=(List.getElem?_eq_some_iff.1 hi).1
   rcases h2 with h2|h2|⟨x',y',hx',hy',hk⟩
   ·omega
   ·omega
   ·have a1:=su.at_ (by omega) hx' hi
    have a2:=sv.at_ (i:=j) (j:=H - 1 - s) (by omega) hj hy'
    omega
  ·cases hj
 ·intro x hx y hy
  obtain⟨i,hi⟩:=List.mem_iff_getElem?.1 hx
  obtain⟨j,hj⟩:=List.mem_iff_getElem?.1 hy
  rw[List.getElem?_drop] at hj
  rw[List.getElem?_take] at hi
  split at hi
  ·rename_i hlt
   have hjl:=(List.getElem?_eq_some_iff.1 hj).1
   rcases h1 with h1|h1|⟨x',y',hx',hy',hk⟩
   ·omega
   ·omega
   ·have a1:=su.at_ (i:=i) (j:=s - 1) (by omega) hi hx'
    have a2:=sv.at_ (by omega) hy' hj
    omega
  ·cases hi
def Runs (key:α→Int) (n:Nat) (xs:List α):Prop:=∀ c:Nat,Srt key ((xs.drop (c * n)).take n)
theorem Runs.one {n:Nat} {xs:List α} (hn:0 < n) (h:xs.length≤n) (s:Srt key xs):Runs key n xs:=fun c=>by
 cases c with
 |zero=>rw[Nat.zero_mul,List.drop_zero,List.take_of_length_le h];exact s
 |succ c=>
  have:n≤(c+1) * n:=by rw[Nat.add_mul];omega
  rw[List.drop_of_length_le (by omega),List.take_nil];exact List.Pairwise.nil
theorem Runs.tail {n:Nat} {xs:List α} (r:Runs key n xs):Runs key n (xs.drop n):=fun c=>by
 have:=r (c+1)
 rw[Nat.add_mul,Nat.one_mul,Nat.add_comm] at this
 rw[List.drop_drop];exact this
theorem Runs.head {n:Nat} {xs:List α} (r:Runs key n xs):Srt key (xs.take n):=by simpa using r 0
theorem Runs.all {n:Nat} {xs:List α} (r:Runs key n xs) (h:xs.length≤n):Srt key xs:=by have:=r.head;rwa [List.take_of_length_le h] at this
theorem Runs.app {n k:Nat} {xs ys:List α} (h:xs.length=k * n) (r:Runs key n xs) (r':Runs key n ys):Runs key n (xs++ys):=fun c=>by
 rcases Nat.lt_or_ge c k with hc|hc
 ·have h1:(c+1) * n≤k * n:=Nat.mul_le_mul_right _ hc
  rw[Nat.add_mul,Nat.one_mul] at h1
  rw[List.drop_append_of_le_length (by omega),List.take_append_of_le_length (by simp;omega)]
  exact r c
 ·obtain⟨d,rfl⟩:∃ d,c=k+d:=⟨c - k,by omega⟩
  have:(xs++ys).drop ((k+d) * n)=ys.drop (d * n):=by
   rw[Nat.add_mul,←h,←List.drop_drop,List.drop_left]
  rw[this];exact r' d
end
end Go.Ab
end
section
namespace Go.Ab
open Go.RowKit
theorem LG {b:Nat} {H1 Fx H2 Fy G3:List Nat}:(b::(H1++(Fy++(H2++(Fx++G3))))).Perm (b::(H1++(Fx++(H2++(Fy++G3))))):=by
 refine List.Perm.cons _ (List.Perm.append_left _ ?_)
 have a1:(Fy++(H2++(Fx++G3))).Perm ((Fx++G3)++(Fy++H2)):=by
  rw[←List.append_assoc];exact List.perm_append_comm
 have a2:((Fx++G3)++(Fy++H2)).Perm (Fx++(H2++(Fy++G3))):=by
  rw[List.append_assoc]
  refine List.Perm.append_left _ ?_
  have b1:(G3++(Fy++H2)).Perm ((Fy++H2)++G3):=List.perm_append_comm
  refine b1.trans ?_
  rw[←List.append_assoc]
  exact List.Perm.append_right _ List.perm_append_comm
 exact a1.trans a2
section
variable{α:Type} [Cel α] {P:Program} {h:AH}
theorem ah.two {n:Nat} {v:AV} {xs:List α} {F:List Nat} (r:ah h v xs F) (o:Own n h F) {i j:Nat} {x y:α} (hij:i < j) (hx:xs[i]? =some x) (hy:xs[j]? =some y):
  ∃ b off A cx M cy R G1 Fx G2 Fy G3,v= .sl b off xs.length∧F=b::(G1++(Fx++(G2++(Fy++G3))))∧h.get b=⟨A++(cx++(M++(cy++R))),Cel.w α,0⟩∧b < h.n∧A.length=off+i * Cel.w α∧A.length+cx.length+M.length=off+j * Cel.w α∧Cel.rep h x cx Fx∧Cel.rep h y cy Fy∧
  ∀ h',h'.get b=⟨A++(cy++(M++(cx++R))),Cel.w α,0⟩→Kp h h' [b]→ah h' v (swp xs i j) (b::(G1++(Fy++(G2++(Fx++G3)))))∧Own n h' (b::(G1++(Fy++(G2++(Fx++G3))))):=by
 have hj:j < xs.length:=(List.getElem?_eq_some_iff.1 hy).1
 rcases r with⟨rfl,h1,rfl⟩|⟨b,off,F',cs0,rfl,rfl,h1,h2,h3,h4,h5,h6,h7⟩
 ·omega
 obtain⟨c1,cy,c2,G1,Fy,G3,rfl,rfl,q1,q2,q3⟩:=h7.split hy
 have hx':(xs.take j)[i]? =some x:=by rw[List.getElem?_take,if_pos hij];exact hx
 obtain⟨d1,cx,d2,H1,Fx,H2,rfl,rfl,p1,p2,p3⟩:=q1.split hx'
 have hst:(h.get b).st=0:=(o.2 b (by simp)).2
 have hl1:=p1.length
 rw[List.length_take,List.length_take,Nat.min_eq_left (by omega)] at hl1
 have hl2:=p3.length
 rw[List.length_drop,List.length_take,Nat.min_eq_left (by omega)] at hl2
 have hlx:=Cel.len p2
 have hly:=Cel.len q2
 have hl7:=h7.length
 have hcl:(h.get b).cells=((h.get b).cells.take off++d1)++(cx++(d2++(cy++(c2++(h.get b).cells.drop (off+xs.length * Cel.w α))))):=by
  have e1:(h.get b).cells=(h.get b).cells.take off++(h.get b).cells.drop off:=(List.take_append_drop _ _).symm
  have e2:(h.get b).cells.drop off=((h.get b).cells.drop off).take (xs.length * Cel.w α)++(h.get b).cells.drop (off+xs.length * Cel.w α):=by
   rw[←List.drop_drop,List.take_append_drop]
  rw[←h6] at e2
  conv=>lhs;rw[e1,e2]
  simp only[List.append_assoc]
 have hoff:((h.get b).cells.take off).length=off:=by simp;omega
 have hmul:j * Cel.w α=i * Cel.w α+Cel.w α+(j - (i+1)) * Cel.w α:=by
  obtain⟨k,rfl⟩:∃ k,j=i+1+k:=⟨j - (i+1),by omega⟩
  rw[show i+1+k - (i+1)=k by omega,Nat.add_mul,Nat.add_mul,Nat.one_mul]
 refine⟨b,off,(h.get b).cells.take off++d1,cx,d2,cy,c2++(h.get b).cells.drop (off+xs.length * Cel.w α),H1,Fx,H2,Fy,G3,rfl,by simp only[List.append_assoc],?_,h1,by rw[List.length_append,hoff,hl1],by rw[List.length_append,hoff,hl1,hlx,hl2,hmul];omega,p2,q2,?_⟩
 ·have e:h.get b=⟨(h.get b).cells,(h.get b).es,(h.get b).st⟩:=rfl
  rw[e,h3,hst];congr 1
 ·intro h' hg kp
  have nb:∀ c,c∈(H1++(Fx++H2))++(Fy++G3)→c≠b:=fun c hc e=>by
   subst e
   exact(List.nodup_cons.1 o.1).1 hc
  have lt:=h7.lt
  have kk:∀ c,c∈(H1++(Fx++H2))++(Fy++G3)→h'.get c=h.get c∧c < h'.n:=fun c hc=>⟨kp.2 c (lt c hc) (by simpa using nb c hc),Nat.lt_of_lt_of_le (lt c hc) kp.1⟩
  have hs:swp xs i j=(xs.take j).take i++([y]++((xs.take j).drop (i+1)++([x]++xs.drop (j+1)))):=by
   have e1:=oC hy
   have e2:=oC hx'
   have e3:xs=(xs.take j).take i++x::((xs.take j).drop (i+1)++y::xs.drop (j+1)):=by
    conv=>lhs;rw[e1,e2]
    simp only[List.append_assoc,List.cons_append]
   have:=Hz (A:=(xs.take j).take i) (M:=(xs.take j).drop (i+1)) (B:=xs.drop (j+1)) (x:=x) (y:=y) (i:=i) (j:=j) (by simp;omega) (by simp;omega)
   rw[←e3] at this
   rw[this];simp
  have R1:bR h' (swp xs i j) (d1++(cy++(d2++(cx++c2)))) (H1++(Fy++(H2++(Fx++G3)))):=by
   rw[hs]
   exact(p1.keep fun c hc=>kk c (by simp[hc])).append ((qH (Cel.keep q2 fun c hc=>kk c (by simp[hc]))).append ((p3.keep fun c hc=>kk c (by simp[hc])).append ((qH (Cel.keep p2 fun c hc=>kk c (by simp[hc]))).append (q3.keep fun c hc=>kk c (by simp[hc])))))
  have hR:=R1.length
  have hsl:=GV xs i j
  have hperm:(b::(H1++(Fy++(H2++(Fx++G3))))).Perm (b::((H1++(Fx++H2))++(Fy++G3))):=by
   have e1:(H1++(Fx++H2))++(Fy++G3)=H1++(Fx++(H2++(Fy++G3))):=by simp
   rw[e1];exact LG
  refine⟨.inr ⟨b,off,_,_,by rw[hsl],rfl,Nat.lt_of_lt_of_le h1 kp.1,by simp[live,hg],by simp[hg],?_,by rw[hsl];exact h5,?_,R1⟩,?_⟩
  ·rw[hg,hsl]
   have:=congrArg List.length hcl
   simp only[List.length_append,hoff,hlx,hly,hl1,hl2] at this hR ⊢
   omega
  ·rw[hg,hsl]
   have e:((h.get b).cells.take off++d1)++(cy++(d2++(cx++(c2++(h.get b).cells.drop (off+xs.length * Cel.w α)))))=(h.get b).cells.take off++((d1++(cy++(d2++(cx++c2))))++(h.get b).cells.drop (off+xs.length * Cel.w α)):=by simp only[List.append_assoc]
   simp only[e]
   rw[List.drop_append_of_le_length (by omega),List.drop_of_length_le (by omega),List.nil_append,←hsl,←hR,List.take_left]
  ·refine⟨hperm.nodup_iff.2 o.1,fun c hc=>?_⟩
   have hc':=hperm.mem_iff.1 hc
   have:=o.2 c hc'
   refine⟨this.1,?_⟩
   rcases List.mem_cons.1 hc' with e|hc'
   ·subst e;rw[hg]
   ·rw[(kk c hc').1];exact this.2
end
end Go.Ab
end
section
namespace Go.Ab
open Go.RowKit
structure iE (n:Nat) (h:AH) (b:Nat) (L:List (List Nat)):Prop where
 own:∀ (i:Nat) (G:List Nat),L[i]? =some G→bU n h G∧b ∉ G
 dis:∀ (i j:Nat) (G H:List Nat),i≠j→L[i]? =some G→L[j]? =some H→∀ c∈G,c ∉ H
section
variable{n b:Nat} {h h':AH} {L:List (List Nat)}
theorem jI {i j:Nat} {f G:List Nat} (e:(L.set i f)[j]? =some G):(j=i∧G=f)∨(j≠i∧L[j]? =some G):=by
 rw[List.getElem?_set] at e
 split at e
 ·rename_i hij
  split at e
  ·cases e;exact .inl ⟨hij.symm,rfl⟩
  ·cases e
 ·rename_i hij;exact .inr ⟨fun e=>hij e.symm,e⟩
theorem iE.keep (s:iE n h b L) (k:Kp h h' [b]):iE n h' b L:=
 ⟨fun j G hG=>by
  have:=s.own j G hG
  exact⟨bX k this.1 fun c hc hX=>this.2 (List.mem_singleton.1 hX▸hc),this.2⟩,s.dis⟩
theorem iE.ext (s:iE n h b L) (e:Ext h h'):iE n h' b L:=
 ⟨fun j G hG=>⟨jk e (s.own j G hG).1,(s.own j G hG).2⟩,s.dis⟩
end
structure WV where
 v0:AV
 v1:AV
 v2:AV
 v3:AV
 v4:AV
 v5:AV
 v6:AV
 v7:AV
 v8:AV
 v9:AV
 v10:AV
structure WF where
 f0:List Nat
 f1:List Nat
 f2:List Nat
 f3:List Nat
 f4:List Nat
 f5:List Nat
 f6:List Nat
 f7:List Nat
 f8:List Nat
 f9:List Nat
 f10:List Nat
def WF.l (F:WF):List (List Nat):=[F.f0,F.f1,F.f2,F.f3,F.f4,F.f5,F.f6,F.f7,F.f8,F.f9,F.f10]
abbrev Wld.cv (x:Wld) (V:WV):List AV:=x.cs V.v0 V.v1 V.v2 V.v3 V.v4 V.v5 V.v6 V.v7 V.v8 V.v9 V.v10
structure PW (n:Nat) (h:AH) (b:Nat) (x:Wld) (V:WV) (F:WF):Prop where
 bk:Bk h b (x.cv V) 0
 nb:n≤b
 sep:iE n h b F.l
 r0:ah h V.v0 x.c.rule.l F.f0
 r1:ah h V.v1 x.st F.f1
 r2:ah h V.v2 x.cache F.f2
 r3:ah h V.v3 x.w.near F.f3
 r4:ah h V.v4 x.w.far F.f4
 r5:ah h V.v5 x.w.rest F.f5
 r6:ah h V.v6 x.due F.f6
 r7:ah h V.v7 x.queue F.f7
 r8:ah h V.v8 x.out F.f8
 r9:ah h V.v9 x.tasks F.f9
 r10:ah h V.v10 x.aF F.f10
section
variable{n b:Nat} {h h':AH} {x:Wld} {V:WV} {F:WF}
theorem PW.n0 (w:PW n h b x V F):b ∉ F.f0:=(w.sep.own 0 _ rfl).2
theorem PW.o1 (w:PW n h b x V F):Own n h F.f1:=(w.sep.own 1 _ rfl).1.1
theorem PW.n1 (w:PW n h b x V F):b ∉ F.f1:=(w.sep.own 1 _ rfl).2
theorem PW.n2 (w:PW n h b x V F):b ∉ F.f2:=(w.sep.own 2 _ rfl).2
theorem PW.n3 (w:PW n h b x V F):b ∉ F.f3:=(w.sep.own 3 _ rfl).2
theorem PW.n4 (w:PW n h b x V F):b ∉ F.f4:=(w.sep.own 4 _ rfl).2
theorem PW.n5 (w:PW n h b x V F):b ∉ F.f5:=(w.sep.own 5 _ rfl).2
theorem PW.o6 (w:PW n h b x V F):Own n h F.f6:=(w.sep.own 6 _ rfl).1.1
theorem PW.l6 (w:PW n h b x V F):bU n h F.f6:=(w.sep.own 6 _ rfl).1
theorem PW.n6 (w:PW n h b x V F):b ∉ F.f6:=(w.sep.own 6 _ rfl).2
theorem PW.o7 (w:PW n h b x V F):Own n h F.f7:=(w.sep.own 7 _ rfl).1.1
theorem PW.n7 (w:PW n h b x V F):b ∉ F.f7:=(w.sep.own 7 _ rfl).2
theorem PW.o8 (w:PW n h b x V F):Own n h F.f8:=(w.sep.own 8 _ rfl).1.1
theorem PW.n8 (w:PW n h b x V F):b ∉ F.f8:=(w.sep.own 8 _ rfl).2
theorem PW.o9 (w:PW n h b x V F):Own n h F.f9:=(w.sep.own 9 _ rfl).1.1
theorem PW.l9 (w:PW n h b x V F):bU n h F.f9:=(w.sep.own 9 _ rfl).1
theorem PW.n9 (w:PW n h b x V F):b ∉ F.f9:=(w.sep.own 9 _ rfl).2
theorem PW.o10 (w:PW n h b x V F):Own n h F.f10:=(w.sep.own 10 _ rfl).1.1
theorem PW.n10 (w:PW n h b x V F):b ∉ F.f10:=(w.sep.own 10 _ rfl).2
theorem PW.ext (w:PW n h b x V F) (e:Ext h h'):PW n h' b x V F:=⟨fq e w.bk,w.nb,w.sep.ext e,w.r0.ext e,w.r1.ext e,w.r2.ext e,w.r3.ext e,w.r4.ext e,w.r5.ext e,w.r6.ext e,w.r7.ext e,w.r8.ext e,w.r9.ext e,w.r10.ext e⟩
theorem PW.put (w:PW n h b x V F) {x':Wld} (bk:Bk h' b (x'.cv V) 0) (k:Kp h h' [b]) (e0:x'.c.rule.l=x.c.rule.l:=by rfl) (e1:x'.st=x.st:=by rfl) (e2:x'.cache=x.cache:=by rfl) (e3:x'.w.near=x.w.near:=by rfl) (e4:x'.w.far=x.w.far:=by rfl) (e5:x'.w.rest=x.w.rest:=by rfl) (e6:x'.due=x.due:=by rfl) (e7:x'.queue=x.queue:=by rfl) (e8:x'.out=x.out:=by rfl) (e9:x'.tasks=x.tasks:=by rfl) (e10:x'.aF=x.aF:=by rfl):PW n h' b x' V F:=
 ⟨bk,w.nb,w.sep.keep k,by rw[e0];exact aK k w.r0 fun c hc hX=>w.n0 (List.mem_singleton.1 hX▸hc),by rw[e1];exact aK k w.r1 fun c hc hX=>w.n1 (List.mem_singleton.1 hX▸hc),by rw[e2];exact aK k w.r2 fun c hc hX=>w.n2 (List.mem_singleton.1 hX▸hc),by rw[e3];exact aK k w.r3 fun c hc hX=>w.n3 (List.mem_singleton.1 hX▸hc),by rw[e4];exact aK k w.r4 fun c hc hX=>w.n4 (List.mem_singleton.1 hX▸hc),by rw[e5];exact aK k w.r5 fun c hc hX=>w.n5 (List.mem_singleton.1 hX▸hc),by rw[e6];exact aK k w.r6 fun c hc hX=>w.n6 (List.mem_singleton.1 hX▸hc),by rw[e7];exact aK k w.r7 fun c hc hX=>w.n7 (List.mem_singleton.1 hX▸hc),by rw[e8];exact aK k w.r8 fun c hc hX=>w.n8 (List.mem_singleton.1 hX▸hc),by rw[e9];exact aK k w.r9 fun c hc hX=>w.n9 (List.mem_singleton.1 hX▸hc),by rw[e10];exact aK k w.r10 fun c hc hX=>w.n10 (List.mem_singleton.1 hX▸hc)⟩
end
section
variable{a b c:AH} {X G:List Nat}
theorem Kp.new (k:Kp a b X) (k':Kp b c G) (hG:∀ x∈G,a.n≤x):Kp a c X:=⟨Nat.le_trans k.1 k'.1,fun x hx hX=>(k'.2 x (Nat.lt_of_lt_of_le hx k.1) fun hg=>by have:=hG x hg;omega).trans (k.2 x hx hX)⟩
theorem Kp.qX (k:Kp a b X) {i:Nat} (hi:i∈X) (kk:Blk):Kp a (b.upd i kk) X:=⟨k.1,fun x hx hX=>by
 have:x≠i:=fun e=>hX (e▸hi)
 simp only[oJ,this,if_false];exact k.2 x hx hX⟩
theorem Kp.push (k:Kp a b X) (kk:Blk):Kp a (b.push kk) X:=⟨Nat.le_trans k.1 (Nat.le_succ _),fun x hx hX=>by
 have:x≠b.n:=by have:=k.1;omega
 simp only[LC,this,if_false];exact k.2 x hx hX⟩
end
section
variable{P:Program} {h:AH} {Q:Nat→List AV→AH→Prop} {p:Prog}
theorem iN {c:List AV} {v:AV} (x:(Prog.chk (.alloc c) v p).awp P h Q):(Prog.chk (.alloc c) v p).awp P h Q:=x
theorem Xc {es n:Nat} {z:List AV} {ps:List (Nat × Nat × AV)} {v:AV} (x:(Prog.chk (.aS es n z ps) v p).awp P h Q):(Prog.chk (.aS es n z ps) v p).awp P h Q:=x
theorem iM {b:Nat} {c:List AV} (a:Bk h b c 0) (hk:p.awp P h Q):(Prog.chk (.alloc c) (.ptr b 0) p).awp P h Q:=by
 refine zY ?_ hk
 simp only[AOp.still]
 exact⟨by rw[a.2],by rw[a.2],by rw[a.2]⟩
theorem Mr {b es n:Nat} {z cs:List AV} {ps:List (Nat × Nat × AV)} (a:Bk h b cs es) (hc:dD z ps=some cs) (h1:n * es≤16777216) (h2:cs.length=n * es) (hk:p.awp P h Q):(Prog.chk (.aS es n z ps) (.sl b 0 n) p).awp P h Q:=by
 refine zY ?_ hk
 simp only[AOp.still,hc]
 exact⟨trivial,h1,h2,by rw[a.2],by rw[a.2],by rw[a.2]⟩
end
section
variable{α:Type} [Cel α] {P:Program} {h h':AH} {Q:Nat→List AV→AH→Prop} {k:AV→Prog} {p:Prog}
theorem akb {n:Nat} {a x:AV} (y:(Prog.op (.st n a x) k).awp P h Q):(Prog.op (.st n a x) k).awp P h Q:=y
theorem XK {n:Nat} {a:AV} (y:(Prog.op (.ldn n a) k).awp P h Q):(Prog.op (.ldn n a) k).awp P h Q:=y
theorem zU {n:Nat} {zero cs:List AV} (hl:cs.length=n) (hz:zero.length=n) (hk:(k (.tup [])).awp P (h.push ⟨cs,0,0⟩) Q):(Prog.op (.st n (.ptr h.n 0) (.agg cs)) k).awp P (h.push ⟨zero,0,0⟩) Q:=by
 refine Co rfl hl (by omega) ?_
 rw[yV (by omega)];exact hk
theorem zV {n b:Nat} {cs:List AV} (a:Bk h b cs 0) (hl:cs.length=n) (h0:0 < n) (hk:(k (.agg cs)).awp P h Q):(Prog.op (.ldn n (.ptr b 0)) k).awp P h Q:=
 mZ (xP a) (Ext.refl _) h0 (List.take_of_length_le (by omega)) hl hk
theorem Xi {n b:Nat} {cs:List AV} (a:Bk h b cs 0) (hl:cs.length=n) (h0:0 < n) (hk:p.awp P h Q):(Prog.chk (.ldn n (.ptr b 0)) (.agg cs) p).awp P h Q:=by
 refine zY ?_ hk
 show live h b∧0+n≤(h.get b).cells.length∧((AV.agg (((h.get b).cells.drop 0).take n))= .agg cs∧h=h)
 refine⟨by simp[live,a.2],by rw[a.2];simp;omega,?_,rfl⟩
 rw[a.2];simp only[List.drop_zero];rw[List.take_of_length_le (by omega)]
theorem sZ {x:α} {cs:List AV} {F X:List Nat} (k:Kp h h' X) (r:Cel.rep h x cs F) (d:∀ c∈F,c ∉ X):Cel.rep h' x cs F:=
 Cel.keep r fun c hc=>⟨k.2 c (Cel.lt r c hc) (d c hc),Nat.lt_of_lt_of_le (Cel.lt r c hc) k.1⟩
end
end Go.Ab
end
section
namespace Go.Ab
open Go.RowKit
section
variable{P:Program} {h:AH} {Q:Nat→List AV→AH→Prop} {k:AV→Prog}
theorem iV {a b:Int} (n:Nat) (e:a+b=(n:Int)) (hn:n < 4611686018427387904) (hk:(k (.int .i64 (n:Int))).awp P h Q):(Prog.op (.bin 0 .add (.int .i64 a) (.int .i64 b)) k).awp P h Q:=sQ (by omega) (by omega) (by rw[e];exact hk)
theorem gZ {a b:Int} (n:Nat) (e:a - b=(n:Int)) (hn:n < 4611686018427387904) (hk:(k (.int .i64 (n:Int))).awp P h Q):(Prog.op (.bin 0 .sub (.int .i64 a) (.int .i64 b)) k).awp P h Q:=Hl (by omega) (by omega) (by rw[e];exact hk)
theorem Hq {a b:Int} (n:Nat) (e:a * b=(n:Int)) (hn:n < 4611686018427387904) (hk:(k (.int .i64 (n:Int))).awp P h Q):(Prog.op (.bin 0 .mul (.int .i64 a) (.int .i64 b)) k).awp P h Q:=Cq (by rw[e,kJ (by omega) (by omega)];exact hk)
theorem wrap_u64 (n:Int):IntKind.u64.wrap n=n % 18446744073709551616:=by
 unfold IntKind.wrap
 simp[IntKind.signed,IntKind.bits]
theorem Ht {n:Nat} (hn:n < 4611686018427387904) (hk:(k (.int .i64 ((n / 2:Nat):Int))).awp P h Q):(Prog.op (.conv .u64 (.int .i64 (n:Int))) fun a=>.op (.bin 0 .shr a (.int .u64 1)) fun b=>.op (.conv .i64 b) k).awp P h Q:=by
 refine Hu ?_
 have e1:IntKind.u64.wrap (n:Int)=(n:Int):=by rw[wrap_u64];omega
 rw[e1]
 have e2:eY .shr (.int .u64 (n:Int)) (.int .u64 1)=some (.int .u64 ((n / 2:Nat):Int)):=by
  simp only[eY]
  rw[if_neg (by decide)]
  have:(2:Int) ^ (min (1:Int).toNat (IntKind.bits .u64))=2:=by decide
  rw[this,Int.fdiv_eq_ediv_of_nonneg _ (by decide)]
  congr 2
 simp only[Prog.awp,AOp.go,fI,e2]
 have e3:IntKind.i64.wrap ((n / 2:Nat):Int)=((n / 2:Nat):Int):=by rw[IntKind.wrap_i64];omega
 rw[e3];exact hk
theorem nu (hk:Q 1 [.tup []] h):(Prog.fin []).awp P h Q:=hk
end
class SEl (α:Type) [Cel α] where
 lo:AV→AOp
 v:List AV→AV
 ld:∀ {P:Program} {h h0:AH} {b o:Nat} {x:α} {cs:List AV} {F:List Nat} {k:AV→Prog} {Q:Nat→List AV→AH→Prop},At h b o cs→Cel.rep h0 x cs F→(k (v cs)).awp P h Q→(Prog.op (lo (.ptr b o)) k).awp P h Q
 vc:∀ {h:AH} {x:α} {cs:List AV} {F:List Nat},Cel.rep h x cs F→(v cs).cells? =some cs
instance:SEl Int where
 lo:=.ld1
 v:=fun cs=>cs.headD .un
 ld:=by
  intro P h h0 b o x cs F k Q a r hk
  obtain⟨rfl,_⟩:=r
  exact Ls a (Ext.refl _) hk
 vc:=by
  intro h x cs F r
  obtain⟨rfl,_⟩:=r
  rfl
instance:SEl Trail where
 lo:=.ldn 4
 v:=.agg
 ld:=by
  intro P h h0 b o x cs F k Q a r hk
  have hl:cs.length=4:=Cel.len r
  exact mZ a (Ext.refl _) (by decide) (List.take_of_length_le (by omega)) hl hk
 vc:=fun _=>rfl
theorem agW {α:Type} (xs:List α) {i j:Nat} (hij:i≠j):swp xs i j=swp xs j i:=by
 unfold swp
 cases hi:xs[i]? with
 |none=>cases hj:xs[j]?<;>rfl
 |some x=>cases hj:xs[j]? with
  |none=>rfl
  |some y=>exact List.set_comm _ _ hij
def yg (a b:Int):Int:=if a < b then -1 else if b < a then 1 else 0
theorem uZ {a b:Int}:yg a b < 0↔a < b:=by unfold yg;split<;>(try split)<;>omega
section
variable{α:Type} [Cel α] {P:Program} {h h':AH} {n:Nat}
def dQ (n:Nat) (h:AH) (v:AV) (F:List Nat) (ys:List α) (h':AH):Prop:=Kp h h' F∧∃ F',F'.Perm F∧ah h' v ys F'∧Own n h' F'
theorem dQ.refl {v:AV} {F:List Nat} {xs:List α} (r:ah h v xs F) (o:Own n h F):dQ n h v F xs h:=⟨Kp.refl _ _,F,List.Perm.refl _,r,o⟩
theorem dQ.trans {h1 h2:AH} {v:AV} {F F':List Nat} {ys:List α} (k:Kp h h1 F) (p:F'.Perm F) (m:dQ n h1 v F' ys h2):dQ n h v F ys h2:=by
 obtain⟨k2,F2,p2,r2,o2⟩:=m
 exact⟨k.trans ⟨k2.1,fun b hb hX=>k2.2 b hb fun hm=>hX (p.mem_iff.1 hm)⟩,F2,p2.trans p,r2,o2⟩
def vX (n:Nat) (h:AH) (v:AV) (F:List Nat) (ys:List α):Nat→List AV→AH→Prop:=fun t vs h'=>t=1∧∃ u,vs=[u]∧dQ n h v F ys h'
def oq (P:Program) (f:FuncId) (args:List AV) (n:Nat) (h:AH) (v:AV) (F:List Nat) (ys:List α):Prop:=bq P f args h fun _ h'=>dQ n h v F ys h'
end
section
variable{α:Type} [Cel α] [SEl α] {P:Program} {h h':AH} {Q:Nat→List AV→AH→Prop} {n:Nat}
def nS (P:Program) (key:α→Int) (U:α→Prop) (h0:AH) (F:List Nat) (c:AV):Prop:=
 ∃ f caps,c= .fn f caps∧∀ h',Kp h0 h' F→∀ (x y:α) (cx cy:List AV) (Fx Fy:List Nat),U x→U y→Cel.rep h' x cx Fx→Cel.rep h' y cy Fy→aP P f ([SEl.v α cx,SEl.v α cy]++caps) h' (.int .i64 (yg (key x) (key y)))
theorem nS.kp {key:α→Int} {U:α→Prop} {F F':List Nat} {c:AV} (o:nS P key U h F c) (k:Kp h h' F) (p:F'.Perm F):nS P key U h' F' c:=by
 obtain⟨f,caps,rfl,hc⟩:=o
 exact⟨f,caps,rfl,fun h2 k2=>hc h2 (k.trans ⟨k2.1,fun b hb hX=>k2.2 b hb fun hm=>hX (p.mem_iff.1 hm)⟩)⟩
theorem Ie {v:AV} {xs:List α} {F:List Nat} (r:ah h v xs F) (o:Own n h F) {p q:Nat} {x y:α} (hp:xs[p]? =some x) (hq:xs[q]? =some y) (hne:p≠q):
  ∃ cx cy,(∀ (k:AV→Prog) (Q:Nat→List AV→AH→Prop),(k (SEl.v α cx)).awp P h Q→(Prog.op (.idx (Cel.w α) v (.int .i64 (p:Int))) fun a=>.op (SEl.lo α a) k).awp P h Q)∧
   (∀ (k:AV→Prog) (Q:Nat→List AV→AH→Prop),(k (SEl.v α cy)).awp P h Q→(Prog.op (.idx (Cel.w α) v (.int .i64 (q:Int))) fun a=>.op (SEl.lo α a) k).awp P h Q)∧
   (∀ (K:Prog) (Q:Nat→List AV→AH→Prop),(∀ h' F',Kp h h' F→F'.Perm F→ah h' v (swp xs p q) F'→Own n h' F'→K.awp P h' Q)→
    (Prog.op (.idx (Cel.w α) v (.int .i64 (p:Int))) fun a=>.op (.st (Cel.w α) a (SEl.v α cy)) fun _=>.op (.idx (Cel.w α) v (.int .i64 (q:Int))) fun b=>.op (.st (Cel.w α) b (SEl.v α cx)) fun _=>K).awp P h Q):=by
 have hpl:=(List.getElem?_eq_some_iff.1 hp).1
 have hql:=(List.getElem?_eq_some_iff.1 hq).1
 rcases Nat.lt_or_gt_of_ne hne with hlt|hlt
 ·obtain⟨b,off,A,cx,M,cy,R,G1,Fx,G2,Fy,G3,rfl,rfl,hg,hb,hA,hM,rx,ry,back⟩:=r.two o hlt hp hq
  have lx:=Cel.len rx
  have ly:=Cel.len ry
  have perm:(b::(G1++(Fy++(G2++(Fx++G3))))).Perm (b::(G1++(Fx++(G2++(Fy++G3))))):=LG
  refine⟨cx,cy,fun k Q hk=>uV hpl (SEl.ld (Aw (es:=0) (st:=0) (A:=A) (E:=cx) (R:=M++(cy++R)) hb (by simp[live,hg]) (by rw[hg]) hA) rx hk),fun k Q hk=>uV hql (SEl.ld (Aw (es:=0) (st:=0) (A:=A++(cx++M)) (E:=cy) (R:=R) hb (by simp[live,hg]) (by rw[hg];simp) (by simp;omega)) ry hk),fun K Q hk=>?_⟩
  have e:h=h.upd b ⟨A++(cx++(M++(cy++R))),Cel.w α,0⟩:=by rw[←hg];exact upd_same.symm
  have Ak:=back (h.upd b ⟨A++(cy++(M++(cx++R))),Cel.w α,0⟩) (by simp) gU
  have hk':=hk _ _ (gU.mono (by simp)) perm Ak.1 Ak.2
  refine uV hpl ?_
  rw[e]
  refine Ho (SEl.vc ry) (by omega) (by omega) hA.symm ?_
  refine uV hql ?_
  have e2:A++(cy++(M++(cy++R)))=(A++(cy++M))++(cy++R):=by simp
  rw[e2]
  refine Ho (SEl.vc rx) (by omega) (by omega) (by simp;omega) ?_
  have e3:(A++(cy++M))++(cx++R)=A++(cy++(M++(cx++R))):=by simp
  rw[e3];exact hk'
 ·obtain⟨b,off,A,cy,M,cx,R,G1,Fy,G2,Fx,G3,rfl,rfl,hg,hb,hA,hM,ry,rx,back⟩:=r.two o hlt hq hp
  have lx:=Cel.len rx
  have ly:=Cel.len ry
  have perm:(b::(G1++(Fx++(G2++(Fy++G3))))).Perm (b::(G1++(Fy++(G2++(Fx++G3))))):=LG
  refine⟨cx,cy,fun k Q hk=>uV hpl (SEl.ld (Aw (es:=0) (st:=0) (A:=A++(cy++M)) (E:=cx) (R:=R) hb (by simp[live,hg]) (by rw[hg];simp) (by simp;omega)) rx hk),fun k Q hk=>uV hql (SEl.ld (Aw (es:=0) (st:=0) (A:=A) (E:=cy) (R:=M++(cx++R)) hb (by simp[live,hg]) (by rw[hg]) hA) ry hk),fun K Q hk=>?_⟩
  have e:h=h.upd b ⟨A++(cy++(M++(cx++R))),Cel.w α,0⟩:=by rw[←hg];exact upd_same.symm
  have Ak:=back (h.upd b ⟨A++(cx++(M++(cy++R))),Cel.w α,0⟩) (by simp) gU
  rw[agW _ (Ne.symm hne)] at Ak
  have hk':=hk _ _ (gU.mono (by simp)) perm Ak.1 Ak.2
  refine uV hpl ?_
  rw[e]
  have e1:A++(cy++(M++(cx++R)))=(A++(cy++M))++(cx++R):=by simp
  rw[e1]
  refine Ho (SEl.vc ry) (by omega) (by omega) (by simp;omega) ?_
  refine uV hql ?_
  have e2:(A++(cy++M))++(cy++R)=A++(cy++(M++(cy++R))):=by simp
  rw[e2]
  refine Ho (SEl.vc rx) (by omega) (by omega) hA.symm ?_
  exact hk'
end
def Ym (w:Nat) (lo:AV→AOp) (x0 x1 x2 x3 x4:AV):Prog:=.loop [AV.int .i64 0] (fun vs1=>.op (.bin 0 .lss (g vs1 0) x3) fun v3=>.ite v3 (.op (.bin 0 .add x1 (g vs1 0)) fun v4=>.op (.bin 0 .add x2 (g vs1 0)) fun v5=>.op (.bin 0 .add x2 (g vs1 0)) fun v6=>.op (.idx w x0 v6) fun v7=>.op (lo v7) fun v8=>.op (.bin 0 .add x1 (g vs1 0)) fun v9=>.op (.idx w x0 v9) fun v10=>.op (lo v10) fun v11=>.op (.idx w x0 v4) fun v12=>.op (.st w v12 v8) fun v13=>.op (.idx w x0 v5) fun v14=>.op (.st w v14 v11) fun v15=>.op (.bin 0 .add (g vs1 0) (AV.int .i64 1)) fun v16=>.leaf 0 [v16]) (.leaf 2 [g vs1 0])) fun t2 vs1=>aC t2 1 (.leaf 1 vs1) (aC t2 2 (.fin []) .bad)
def Yo (cw:Nat) (x0 x1 x2 x3 x4:AV):Prog:=.op (.bin 0 .sub x2 x1) fun v1=>.op (.bin 0 .sub x3 x2) fun v2=>.loop [v1,v2] (fun vs3=>.op (.bin 0 .neq (g vs3 0) (g vs3 1)) fun v5=>.ite v5 (.op (.bin 0 .gtr (g vs3 0) (g vs3 1)) fun v6=>.scope (.ite v6 (.op (.bin 0 .sub x2 (g vs3 0)) fun v7=>.op (.call cw [x0,v7,x2,g vs3 1,x4]) fun v8=>.op (.bin 0 .sub (g vs3 0) (g vs3 1)) fun v9=>.leaf 0 [v9,g vs3 1]) (.op (.bin 0 .sub x2 (g vs3 0)) fun v10=>.op (.bin 0 .add x2 (g vs3 1)) fun v11=>.op (.bin 0 .sub v11 (g vs3 0)) fun v12=>.op (.call cw [x0,v10,v12,g vs3 0,x4]) fun v13=>.op (.bin 0 .sub (g vs3 1) (g vs3 0)) fun v14=>.leaf 0 [g vs3 0,v14])) (fun IX=>.leaf 0 [g IX 0,g IX 1]) fun t16 IX=>aC t16 1 (.leaf 1 IX) .bad) (.leaf 2 [g vs3 0,g vs3 1])) fun t4 vs3=>aC t4 1 (.leaf 1 vs3) (aC t4 2 (.op (.bin 0 .sub x2 (g vs3 0)) fun v17=>.op (.call cw [x0,v17,x2,g vs3 0,x4]) fun v18=>.fin []) .bad)
def Yp (w:Nat) (lo:AV→AOp) (x0 x1 x2 x3:AV):Prog:=.op (.bin 0 .add x1 (AV.int .i64 1)) fun v1=>.loop [v1,.tup []] (fun vs2=>.op (.bin 0 .lss (g vs2 0) x2) fun v4=>.ite v4 (.loop [g vs2 0] (fun vs5=>.op (.bin 0 .gtr (g vs5 0) x1) fun v7=>.gop v7 true (.mv x3) fun v8=>.gop v7 true (.mv x0) fun v9=>.gop v7 true (.mv (g vs5 0)) fun v10=>.gop v7 true (.idx w v9 v10) fun v11=>.gop v7 true (lo v11) fun v12=>.gop v7 true (.mv x0) fun v13=>.gop v7 true (.mv (g vs5 0)) fun v14=>.gop v7 true (.bin 0 .sub v14 (AV.int .i64 1)) fun v15=>.gop v7 true (.idx w v13 v15) fun v16=>.gop v7 true (lo v16) fun v17=>.gop v7 true (.gW v8 [v12,v17]) fun v18=>.gop v7 true (.bin 0 .lss v18 (AV.int .i64 0)) fun v19=>.op (.pick v7 v19 (AV.bool false)) fun v20=>.ite v20 (.op (.bin 0 .sub (g vs5 0) (AV.int .i64 1)) fun v21=>.op (.bin 0 .sub (g vs5 0) (AV.int .i64 1)) fun v22=>.op (.idx w x0 v22) fun v23=>.op (lo v23) fun v24=>.op (.idx w x0 (g vs5 0)) fun v25=>.op (lo v25) fun v26=>.op (.idx w x0 (g vs5 0)) fun v27=>.op (.st w v27 v24) fun v28=>.op (.idx w x0 v21) fun v29=>.op (.st w v29 v26) fun v30=>.op (.bin 0 .sub (g vs5 0) (AV.int .i64 1)) fun v31=>.leaf 0 [v31]) (.leaf 4 [g vs5 0])) fun t6 vs5=>aC t6 1 (.leaf 1 vs5) (aC t6 4 (.op (.bin 0 .add (g vs2 0) (AV.int .i64 1)) fun v32=>.leaf 0 [v32,g vs5 0]) .bad)) (.leaf 2 [g vs2 0,g vs2 1])) fun t3 vs2=>aC t3 1 (.leaf 1 vs2) (aC t3 2 (.fin []) .bad)
def xV (w:Nat) (lo:AV→AOp) (cr:Nat) (cm:Nat) (x0 x1 x2 x3 x4:AV):Prog:=.op (.bin 0 .sub x2 x1) fun v1=>.op (.bin 0 .eql v1 (AV.int .i64 1)) fun v2=>.ite v2 (.loop [x2,x3] (fun vs3=>.op (.bin 0 .lss (g vs3 0) (g vs3 1)) fun v5=>.ite v5 (.op (.bin 0 .add (g vs3 0) (g vs3 1)) fun v6=>.op (.conv .u64 v6) fun v7=>.op (.bin 0 .shr v7 (AV.int .u64 1)) fun v8=>.op (.conv .i64 v8) fun v9=>.op (.idx w x0 v9) fun v10=>.op (lo v10) fun v11=>.op (.idx w x0 x1) fun v12=>.op (lo v12) fun v13=>.op (.gW x4 [v11,v13]) fun v14=>.op (.bin 0 .lss v14 (AV.int .i64 0)) fun v15=>.scope (.ite v15 (.op (.bin 0 .add v9 (AV.int .i64 1)) fun v16=>.leaf 0 [v16,g vs3 1]) (.leaf 0 [g vs3 0,v9])) (fun IW=>.leaf 0 [g IW 0,g IW 1]) fun t18 IW=>aC t18 1 (.leaf 1 IW) .bad) (.leaf 2 [g vs3 0,g vs3 1])) fun t4 vs3=>aC t4 1 (.leaf 1 vs3) (aC t4 2 (.loop [x1] (fun tX=>.op (.bin 0 .sub (g vs3 0) (AV.int .i64 1)) fun v21=>.op (.bin 0 .lss (g tX 0) v21) fun v22=>.ite v22 (.op (.bin 0 .add (g tX 0) (AV.int .i64 1)) fun v23=>.op (.bin 0 .add (g tX 0) (AV.int .i64 1)) fun v24=>.op (.idx w x0 v24) fun v25=>.op (lo v25) fun v26=>.op (.idx w x0 (g tX 0)) fun v27=>.op (lo v27) fun v28=>.op (.idx w x0 (g tX 0)) fun v29=>.op (.st w v29 v26) fun v30=>.op (.idx w x0 v23) fun v31=>.op (.st w v31 v28) fun v32=>.op (.bin 0 .add (g tX 0) (AV.int .i64 1)) fun v33=>.leaf 0 [v33]) (.leaf 4 [g tX 0])) fun t20 tX=>aC t20 1 (.leaf 1 tX) (aC t20 4 (.fin []) .bad)) .bad)) (.op (.bin 0 .sub x3 x2) fun v34=>.op (.bin 0 .eql v34 (AV.int .i64 1)) fun v35=>.ite v35 (.loop [x1,x2] (fun qb=>.op (.bin 0 .lss (g qb 0) (g qb 1)) fun v38=>.ite v38 (.op (.bin 0 .add (g qb 0) (g qb 1)) fun v39=>.op (.conv .u64 v39) fun v40=>.op (.bin 0 .shr v40 (AV.int .u64 1)) fun v41=>.op (.conv .i64 v41) fun v42=>.op (.idx w x0 x2) fun v43=>.op (lo v43) fun v44=>.op (.idx w x0 v42) fun v45=>.op (lo v45) fun v46=>.op (.gW x4 [v44,v46]) fun v47=>.op (.bin 0 .lss v47 (AV.int .i64 0)) fun v48=>.op (.una .not v48) fun v49=>.scope (.ite v49 (.op (.bin 0 .add v42 (AV.int .i64 1)) fun v50=>.leaf 0 [v50,g qb 1]) (.leaf 0 [g qb 0,v42])) (fun IU=>.leaf 0 [g IU 0,g IU 1]) fun t52 IU=>aC t52 1 (.leaf 1 IU) .bad) (.leaf 6 [g qb 0,g qb 1])) fun t37 qb=>aC t37 1 (.leaf 1 qb) (aC t37 6 (.loop [x2] (fun tV=>.op (.bin 0 .gtr (g tV 0) (g qb 0)) fun v55=>.ite v55 (.op (.bin 0 .sub (g tV 0) (AV.int .i64 1)) fun v56=>.op (.bin 0 .sub (g tV 0) (AV.int .i64 1)) fun v57=>.op (.idx w x0 v57) fun v58=>.op (lo v58) fun v59=>.op (.idx w x0 (g tV 0)) fun v60=>.op (lo v60) fun v61=>.op (.idx w x0 (g tV 0)) fun v62=>.op (.st w v62 v59) fun v63=>.op (.idx w x0 v56) fun v64=>.op (.st w v64 v61) fun v65=>.op (.bin 0 .sub (g tV 0) (AV.int .i64 1)) fun v66=>.leaf 0 [v66]) (.leaf 8 [g tV 0])) fun t54 tV=>aC t54 1 (.leaf 1 tV) (aC t54 8 (.fin []) .bad)) .bad)) (.op (.bin 0 .add x1 x3) fun v67=>.op (.conv .u64 v67) fun v68=>.op (.bin 0 .shr v68 (AV.int .u64 1)) fun v69=>.op (.conv .i64 v69) fun v70=>.op (.bin 0 .add v70 x2) fun v71=>.op (.bin 0 .gtr x2 v70) fun v72=>.scope (.ite v72 (.op (.bin 0 .sub v71 x3) fun v73=>.leaf 0 [v73,v70]) (.leaf 0 [x1,x2])) (fun IQ=>.op (.bin 0 .sub v71 (AV.int .i64 1)) fun v76=>.loop [g IQ 0,g IQ 1] (fun kF=>.op (.bin 0 .lss (g kF 0) (g kF 1)) fun v79=>.ite v79 (.op (.bin 0 .add (g kF 0) (g kF 1)) fun v80=>.op (.conv .u64 v80) fun v81=>.op (.bin 0 .shr v81 (AV.int .u64 1)) fun v82=>.op (.conv .i64 v82) fun v83=>.op (.bin 0 .sub v76 v83) fun v84=>.op (.idx w x0 v84) fun v85=>.op (lo v85) fun v86=>.op (.idx w x0 v83) fun v87=>.op (lo v87) fun v88=>.op (.gW x4 [v86,v88]) fun v89=>.op (.bin 0 .lss v89 (AV.int .i64 0)) fun v90=>.op (.una .not v90) fun v91=>.scope (.ite v91 (.op (.bin 0 .add v83 (AV.int .i64 1)) fun v92=>.leaf 0 [v92,g kF 1]) (.leaf 0 [g kF 0,v83])) (fun IL=>.leaf 0 [g IL 0,g IL 1]) fun t94 IL=>aC t94 1 (.leaf 1 IL) .bad) (.leaf 10 [g kF 0,g kF 1])) fun t78 kF=>aC t78 1 (.leaf 1 kF) (aC t78 10 (.op (.bin 0 .sub v71 (g kF 0)) fun v95=>.op (.bin 0 .lss (g kF 0) x2) fun v96=>.gop v96 true (.mv x2) fun v97=>.gop v96 true (.mv v95) fun v98=>.gop v96 true (.bin 0 .lss v97 v98) fun v99=>.op (.pick v96 v99 (AV.bool false)) fun qW=>.scope (.ite qW (.op (.call cr [x0,g kF 0,x2,v95,x4]) fun alx=>.leaf 0 []) (.leaf 0 [])) (fun Xp=>.op (.bin 0 .lss x1 (g kF 0)) fun IZ=>.gop IZ true (.mv (g kF 0)) fun v105=>.gop IZ true (.mv v70) fun ako=>.gop IZ true (.bin 0 .lss v105 ako) fun v107=>.op (.pick IZ v107 (AV.bool false)) fun akn=>.scope (.ite akn (.op (.call cm [x0,x1,g kF 0,v70,x4]) fun v109=>.leaf 0 []) (.leaf 0 [])) (fun Xo=>.op (.bin 0 .lss v70 v95) fun IY=>.gop IY true (.mv v95) fun akm=>.gop IY true (.mv x3) fun akl=>.gop IY true (.bin 0 .lss akm akl) fun akk=>.op (.pick IY akk (AV.bool false)) fun akj=>.scope (.ite akj (.op (.call cm [x0,v70,v95,x3,x4]) fun v117=>.leaf 0 []) (.leaf 0 [])) (fun Xn=>.fin []) fun t119 Xn=>aC t119 1 (.leaf 1 Xn) .bad) fun akr Xo=>aC akr 1 (.leaf 1 Xo) .bad) fun aks Xp=>aC aks 1 (.leaf 1 Xp) .bad) .bad)) fun t75 IQ=>aC t75 1 (.leaf 1 IQ) .bad))
def Yn (ci:Nat) (cm:Nat) (x0 x1 x2:AV):Prog:=.loop [AV.int .i64 0,AV.int .i64 20] (fun vs1=>.op (.bin 0 .leq (g vs1 1) x1) fun v3=>.ite v3 (.op (.call ci [x0,g vs1 0,g vs1 1,x2]) fun v4=>.op (.bin 0 .add (g vs1 1) (AV.int .i64 20)) fun v5=>.leaf 0 [g vs1 1,v5]) (.leaf 2 [g vs1 0,g vs1 1])) fun t2 vs1=>aC t2 1 (.leaf 1 vs1) (aC t2 2 (.op (.call ci [x0,g vs1 0,x1,x2]) fun v6=>.loop [AV.int .i64 20,g vs1 0,g vs1 1] (fun vs7=>.op (.bin 0 .lss (g vs7 0) x1) fun v9=>.ite v9 (.op (.bin 0 .mul (AV.int .i64 2) (g vs7 0)) fun v10=>.loop [AV.int .i64 0,v10] (fun lJ=>.op (.bin 0 .leq (g lJ 1) x1) fun v13=>.ite v13 (.op (.bin 0 .add (g lJ 0) (g vs7 0)) fun v14=>.op (.call cm [x0,g lJ 0,v14,g lJ 1,x2]) fun v15=>.op (.bin 0 .mul (AV.int .i64 2) (g vs7 0)) fun v16=>.op (.bin 0 .add (g lJ 1) v16) fun v17=>.leaf 0 [g lJ 1,v17]) (.leaf 6 [g lJ 0,g lJ 1])) fun t12 lJ=>aC t12 1 (.leaf 1 lJ) (aC t12 6 (.op (.bin 0 .add (g lJ 0) (g vs7 0)) fun v18=>.op (.bin 0 .lss v18 x1) fun v19=>.scope (.ite v19 (.op (.call cm [x0,g lJ 0,v18,x1,x2]) fun v20=>.leaf 0 []) (.leaf 0 [])) (fun Yb=>.op (.bin 0 .mul (g vs7 0) (AV.int .i64 2)) fun v23=>.leaf 0 [v23,g lJ 0,g lJ 1]) fun t22 Yb=>aC t22 1 (.leaf 1 Yb) .bad) .bad)) (.leaf 4 [g vs7 0,g vs7 1,g vs7 2])) fun t8 vs7=>aC t8 1 (.leaf 1 vs7) (aC t8 4 (.fin []) .bad)) .bad)
section
variable{α:Type} [Cel α] [SEl α] {P:Program} {n:Nat} {key:α→Int} {U0:α→Prop}
theorem UD {h:AH} {v:AV} {xs:List α} {F:List Nat} {x4:AV} (r:ah h v xs F) (o:Own n h F) {a b c:Nat} (h1:a+c≤b) (h2:b+c≤xs.length):
  (Ym (Cel.w α) (SEl.lo α) v (.int .i64 (a:Int)) (.int .i64 (b:Int)) (.int .i64 (c:Int)) x4).awp P h (vX n h v F (swr xs a b c)):=by
 have hsm:=r.small
 unfold Ym
 refine aX c (fun i vs h1=>vs=[.int .i64 (i:Int)]∧i≤c∧dQ n h v F (swr xs a b i) h1) ⟨rfl,Nat.zero_le _,dQ.refl r o⟩ ?_
 rintro i vs h1 _ ⟨rfl,hi,k1,F1,p1,r1,o1⟩
 simp only[g0]
 refine ig (fun hlt=>dL ?_) (fun hge=>dO ?_)
 ·have hl:=ahN xs a b i
  refine iV (a+i) (by omega) (by omega) (iV (b+i) (by omega) (by omega) (iV (b+i) (by omega) (by omega) ?_))
  obtain⟨x,hx⟩:∃ x,(swr xs a b i)[a+i]? =some x:=⟨_,List.getElem?_eq_getElem (by omega)⟩
  obtain⟨y,hy⟩:∃ y,(swr xs a b i)[b+i]? =some y:=⟨_,List.getElem?_eq_getElem (by omega)⟩
  obtain⟨cx,cy,g1,g2,g3⟩:=Ie (P:=P) r1 o1 hx hy (by omega)
  refine g2 _ _ (iV (a+i) (by omega) (by omega) (g1 _ _ (g3 _ _ fun h' F' k' p' r' o'=>?_)))
  exact nJ (by omega) (bN (dN ⟨by omega,rfl,by omega,dQ.trans k1 p1 ⟨k',F',p',r',o'⟩⟩))
 ·have:i=c:=by omega
  subst this
  exact bN (jC (by decide) (je (by decide) (jf (nu ⟨rfl,_,rfl,k1,F1,p1,r1,o1⟩))))
end
section
variable{α:Type} [Cel α] {P:Program} {n:Nat}
def NQ (α:Type) [Cel α] (P:Program) (cw:FuncId) (c:AV):Prop:=∀ (n:Nat) (h:AH) (v:AV) (xs:List α) (F:List Nat) (a b m:Nat),ah h v xs F→Own n h F→a+m≤b→b+m≤xs.length→oq P cw [v,.int .i64 (a:Int),.int .i64 (b:Int),.int .i64 (m:Int),c] n h v F (swr xs a b m)
theorem UK {cw:FuncId} {c:AV} (hw:NQ α P cw c) {h:AH} {v:AV} {A U V B:List α} {F:List Nat} (r:ah h v (A++(U++(V++B))) F) (o:Own n h F) (hU:U≠[]) (hV:V≠[]):
  (Yo cw v (.int .i64 (A.length:Int)) (.int .i64 ((A.length+U.length:Nat):Int)) (.int .i64 ((A.length+U.length+V.length:Nat):Int)) c).awp P h (vX n h v F (A++((V++U)++B))):=by
 have hsm:=r.small
 simp only[List.length_append] at hsm
 have hUl:=List.length_pos_iff.2 hU
 have hVl:=List.length_pos_iff.2 hV
 unfold Yo
 refine gZ U.length (by omega) (by omega) (gZ V.length (by omega) (by omega) ?_)
 refine mo (fun N vs h1=>∃ L A' B' R:List α,vs=[.int .i64 (A'.length:Int),.int .i64 (B'.length:Int)]∧N=A'.length+B'.length∧0 < A'.length∧0 < B'.length∧L.length+A'.length=U.length∧L++(B'++(A'++R))=V++U∧dQ n h v F (A++(L++(A'++(B'++(R++B))))) h1) (U.length+V.length) ⟨[],U,V,[],rfl,rfl,hUl,hVl,by simp,by simp,by simpa using dQ.refl r o⟩ ?_
 rintro N vs h1 ⟨L,A',B',R,rfl,rfl,hA,hB,hm,ht,k1,F1,p1,r1,o1⟩
 have htl:=congrArg List.length ht
 simp only[List.length_append] at htl
 simp only[g0,g1]
 refine Ig (fun hne=>dL ?_) (fun heq=>dO ?_)
 ·refine zX (fun hlt=>?_) (fun hge=>?_)
  ·refine gP (dL (gZ (A.length+L.length) (by omega) (by omega) (aL (hw n h1 v _ F1 (A.length+L.length) (A.length+U.length) B'.length r1 o1 (by omega) (by simp only[List.length_append];omega)) ?_)))
   intro u h2 m2
   refine gZ (A'.length - B'.length) (by omega) (by omega) (bN (dN (bN (dN ?_))))
   have e:A++(L++(A'++(B'++(R++B))))=(A++L)++(A'.take B'.length++(A'.drop B'.length++(B'++(R++B)))):=by
    rw[←List.append_assoc (A'.take _),List.take_append_drop];simp only[List.append_assoc]
   rw[e,L6 (by simp) (by simp;omega) rfl (by simp;omega)] at m2
   refine⟨(A'.drop B'.length).length+(A'.take B'.length).length,by simp;omega,L++B',A'.drop B'.length,A'.take B'.length,R,?_,rfl,by simp;omega,by simp;omega,by simp;omega,?_,?_⟩
   ·simp only[g0,g1,List.length_drop,List.length_take,Nat.min_eq_left (show B'.length≤A'.length by omega)]
   ·rw[←ht,←List.append_assoc (A'.take _),List.take_append_drop];simp
   ·simpa only[List.append_assoc] using dQ.trans k1 p1 m2
  ·refine gP (dO (gZ (A.length+L.length) (by omega) (by omega) (iV (A.length+U.length+B'.length) (by omega) (by omega) (gZ (A.length+U.length+B'.length - A'.length) (by omega) (by omega) (aL (hw n h1 v _ F1 (A.length+L.length) (A.length+U.length+B'.length - A'.length) A'.length r1 o1 (by omega) (by simp only[List.length_append];omega)) ?_)))))
   intro u h2 m2
   refine gZ (B'.length - A'.length) (by omega) (by omega) (bN (dN (bN (dN ?_))))
   have e:A++(L++(A'++(B'++(R++B))))=(A++L)++(A'++(B'.take (B'.length - A'.length)++(B'.drop (B'.length - A'.length)++(R++B)))):=by
    rw[←List.append_assoc (B'.take _),List.take_append_drop];simp only[List.append_assoc]
   rw[e,L6 (by simp) rfl (by simp;omega) (by simp;omega)] at m2
   refine⟨(B'.drop (B'.length - A'.length)).length+(B'.take (B'.length - A'.length)).length,by simp;omega,L,B'.drop (B'.length - A'.length),B'.take (B'.length - A'.length),A'++R,?_,rfl,by simp;omega,by simp;omega,by simp;omega,?_,?_⟩
   ·simp only[g0,g1,List.length_drop,List.length_take,Nat.min_eq_left (show B'.length - A'.length≤B'.length by omega)]
    rw[show B'.length - (B'.length - A'.length)=A'.length by omega]
   ·rw[←ht,←List.append_assoc (B'.take _),List.take_append_drop]
   ·simpa only[List.append_assoc] using dQ.trans k1 p1 m2
 ·refine bN (jC (by decide) (je (by decide) (jf ?_)))
  simp only[g0]
  refine gZ (A.length+L.length) (by omega) (by omega) (aL (hw n h1 v _ F1 (A.length+L.length) (A.length+U.length) A'.length r1 o1 (by omega) (by simp only[List.length_append];omega)) ?_)
  intro u h2 m2
  have e:A++(L++(A'++(B'++(R++B))))=(A++L)++(A'++([]++(B'++(R++B)))):=by simp
  rw[e,L6 (by simp) rfl (by omega) (by simp;omega)] at m2
  refine nu ⟨rfl,_,rfl,?_⟩
  have m3:=dQ.trans k1 p1 m2
  have e2:(A++L)++(B'++([]++(A'++(R++B))))=A++((V++U)++B):=by rw[←ht];simp
  rw[e2] at m3;exact m3
end
section
variable{α:Type} [Cel α] [SEl α] {P:Program} {n:Nat} {key:α→Int} {U0:α→Prop}
theorem U8 {c:AV} {h:AH} {v:AV} {A U B:List α} {F:List Nat} (r:ah h v (A++(U++B)) F) (o:Own n h F) (hc:nS P key U0 h F c) (hu:∀ x∈U,U0 x):
  (Yp (Cel.w α) (SEl.lo α) v (.int .i64 (A.length:Int)) (.int .i64 ((A.length+U.length:Nat):Int)) c).awp P h (vX n h v F (A++(bS key U++B))):=by
 have hsm:=r.small
 simp only[List.length_append] at hsm
 obtain⟨f,caps,rfl,hc⟩:=hc
 unfold Yp
 refine iV (A.length+1) (by omega) (by omega) ?_
 refine aX U.length (fun i vs h1=>∃ w,vs=[.int .i64 ((A.length+1+i:Nat):Int),w]∧(i=0∨i+1≤U.length)∧dQ n h v F (A++(bS key (U.take (i+1))++(U.drop (i+1)++B))) h1) ⟨.tup [],by simp,.inl rfl,?_⟩ ?_
 ·rw[Lu]
  ·rw[←List.append_assoc (U.take 1),List.take_append_drop];exact dQ.refl r o
  ·cases U with
   |nil=>exact List.Pairwise.nil
   |cons x U=>exact List.pairwise_singleton _ _
 rintro i vs h1 _ ⟨w,rfl,hi,k1,F1,p1,r1,o1⟩
 simp only[g0,g1]
 refine ig (fun hlt=>dL ?_) (fun hge=>dO ?_)
 ·obtain⟨u,hu1,hd,htk⟩:=aU (show i+1 < U.length by omega)
  have hss:(bS key (U.take (i+1))).length=i+1:=by rw[jP];simp;omega
  have hsr:Srt key (bS key (U.take (i+1))):=sj
  refine mo (fun N vs h2=>∃ X Y:List α,vs=[.int .i64 ((A.length+X.length:Nat):Int)]∧N=X.length∧X++Y=bS key (U.take (i+1))∧(∀ y∈Y,key u < key y)∧dQ n h v F (A++(X++u::(Y++(U.drop (i+1+1)++B)))) h2) (i+1) ⟨bS key (U.take (i+1)),[],?_,hss.symm,by simp,by simp,?_⟩ ?_
  ·rw[hss];congr 3;omega
  ·rw[hd] at r1
   exact⟨k1,F1,p1,by simpa using r1,o1⟩
  rintro N vs h2 ⟨X,Y,rfl,rfl,hXY,hY,k2,F2,p2,r2,o2⟩
  have hl:=congrArg List.length hXY
  rw[List.length_append,hss] at hl
  simp only[g0]
  have fin:(∀ x∈X,key x≤key u)→A++(X++u::(Y++(U.drop (i+1+1)++B)))=A++(bS key (U.take (i+1+1))++(U.drop (i+1+1)++B)):=fun hX=>by
   rw[htk,afp,←hXY,V4 hX hY];simp
  refine zX (fun hgt=>?_) (fun hle=>?_)
  ·obtain⟨X',x,rfl⟩:=G9 (U:=X) (by omega)
   simp only[List.length_append,List.length_singleton] at hl hgt ⊢
   have hu2:(A++((X'++[x])++u::(Y++(U.drop (i+1+1)++B))))[A.length+(X'.length+1)]? =some u:=by
    rw[List.getElem?_append_right (by omega),List.getElem?_append_right (by simp),show A.length+(X'.length+1) - A.length - (X'++[x]).length=0 by simp<;>omega];rfl
   have hx2:(A++((X'++[x])++u::(Y++(U.drop (i+1+1)++B))))[A.length+X'.length]? =some x:=by
    rw[List.getElem?_append_right (by omega),List.getElem?_append_left (by simp),List.getElem?_append_right (by omega),show A.length+X'.length - A.length - X'.length=0 by omega];rfl
   have hxm:x∈U:=by
    have:x∈bS key (U.take (i+1)):=by rw[←hXY];simp
    exact List.mem_of_mem_take (BH.1 this)
   refine iF (pY (iF (pY (iF (pY (iF ?_))))))
   refine dw r2 hu2 rfl fun b1 o1' cu Fu au ru _=>iF (SEl.ld au ru (iF (pY (iF (pY (iF (gZ (A.length+X'.length) (by omega) (by omega) (iF ?_))))))))
   refine dw r2 hx2 rfl fun b2 o2' cx Fx ax rx _=>iF (SEl.ld ax rx (iF ?_))
   refine uL (hc h2 k2 u x cu cx Fu Fx (hu u (List.mem_of_getElem? hu1)) (hu x hxm) ru rx) (iF ?_)
   refine ig (fun hneg=>?_) (fun hnn=>?_)
   ·have hlt2:=uZ.1 hneg
    refine mY (dL (gZ (A.length+X'.length) (by omega) (by omega) (gZ (A.length+X'.length) (by omega) (by omega) ?_)))
    obtain⟨c1,c2,g1,g2,g3⟩:=Ie (P:=P) r2 o2 hu2 hx2 (by omega)
    refine g2 _ _ (g1 _ _ (g3 _ _ fun h' F' k' p' r' o'=>?_))
    refine gZ (A.length+X'.length) (by omega) (by omega) (bN (dN ⟨X'.length,by simp,X',x::Y,rfl,rfl,by rw[←hXY];simp,fun y hy=>?_,?_⟩))
    ·rcases List.mem_cons.1 hy with e|e
     ·rw[e];exact hlt2
     ·exact hY y e
    ·have e:A++((X'++[x])++u::(Y++(U.drop (i+1+1)++B)))=(A++X')++x::([]++u::(Y++(U.drop (i+1+1)++B))):=by simp
     rw[e,Vy (by simp) (by simp;omega)] at r'
     have:=dQ.trans k2 p2 ⟨k',F',p',r',o'⟩
     simpa using this
   ·have vR: ¬ key u < key x:=fun hlt=>hnn (uZ.2 hlt)
    refine mY (dO (bN (jC (by decide) (je (by decide) (jf ?_)))))
    refine nJ (by omega) (bN (dN ⟨by omega,_,rfl,by omega,?_⟩))
    rw[←fin fun z hz=>?_]
    ·exact⟨k2,F2,p2,r2,o2⟩
    ·rw[←hXY] at hsr
     rcases List.mem_append.1 hz with hz|hz
     ·have:=hsr.l.lr z hz x (by simp);omega
     ·rw[List.mem_singleton.1 hz];omega
  ·have hX:X=[]:=List.length_eq_zero_iff.1 (by omega)
   subst hX
   iterate 12 refine qF ?_
   refine sF (dO (bN (jC (by decide) (je (by decide) (jf ?_)))))
   refine nJ (by omega) (bN (dN ⟨by omega,_,rfl,by omega,?_⟩))
   rw[←fin (by simp)]
   exact⟨k2,F2,p2,r2,o2⟩
 ·refine bN (jC (by decide) (je (by decide) (jf (nu ⟨rfl,_,rfl,?_⟩))))
  rw[List.take_of_length_le (by omega),List.drop_of_length_le (by omega)] at r1
  exact⟨k1,F1,p1,by simpa using r1,o1⟩
end
end Go.Ab
end
section
namespace Go.Ab
open Go.RowKit
theorem zG {α:Type} {A U B:List α} {t:Nat} {x:α} (hx:U[t]? =some x) {j:Nat} (hj:j=A.length+t):(A++(U++B))[j]? =some x:=by
 have ht:=(List.getElem?_eq_some_iff.1 hx).1
 subst hj
 rw[List.getElem?_append_right (by omega),show A.length+t - A.length=t by omega,List.getElem?_append_left ht];exact hx
section
variable{α:Type} [Cel α] [SEl α] {P:Program} {n:Nat} {key:α→Int} {U0:α→Prop}
def Jr (α:Type) [Cel α] (P:Program) (cr:FuncId) (c:AV):Prop:=∀ (n:Nat) (h:AH) (v:AV) (A U V B:List α) (F:List Nat),ah h v (A++(U++(V++B))) F→Own n h F→U≠[]→V≠[]→
 oq P cr [v,.int .i64 (A.length:Int),.int .i64 ((A.length+U.length:Nat):Int),.int .i64 ((A.length+U.length+V.length:Nat):Int),c] n h v F (A++((V++U)++B))
def NP (α:Type) [Cel α] [SEl α] (P:Program) (key:α→Int) (U0:α→Prop) (cm:FuncId) (c:AV) (N:Nat):Prop:=∀ (n:Nat) (h:AH) (v:AV) (A U V B:List α) (F:List Nat),U.length+V.length≤N→ah h v (A++(U++(V++B))) F→Own n h F→nS P key U0 h F c→(∀ x∈U,U0 x)→(∀ x∈V,U0 x)→Srt key U→Srt key V→U≠[]→V≠[]→
 oq P cm [v,.int .i64 (A.length:Int),.int .i64 ((A.length+U.length:Nat):Int),.int .i64 ((A.length+U.length+V.length:Nat):Int),c] n h v F (A++(bS key (U++V)++B))
theorem af7 {cm cr:FuncId} {c:AV} {h:AH} {v:AV} {A V B:List α} {u:α} {F:List Nat} (r:ah h v (A++([u]++(V++B))) F) (o:Own n h F) (hc:nS P key U0 h F c) (hu:U0 u) (hv:∀ x∈V,U0 x) (sv:Srt key V):
  (xV (Cel.w α) (SEl.lo α) cr cm v (.int .i64 (A.length:Int)) (.int .i64 ((A.length+1:Nat):Int)) (.int .i64 ((A.length+1+V.length:Nat):Int)) c).awp P h (vX n h v F (A++(bS key ([u]++V)++B))):=by
 have hsm:=r.small
 simp only[List.length_append,List.length_singleton] at hsm
 obtain⟨f,caps,rfl,hc⟩:=hc
 unfold xV
 refine gZ 1 (by omega) (by omega) (xD (fun _=>dL ?_) (fun hn=>absurd rfl hn))
 have hu1:(A++([u]++(V++B)))[A.length]? =some u:=zG (t:=0) rfl rfl
 refine mo (fun d vs h1=>∃ i j:Nat,vs=[.int .i64 ((A.length+1+i:Nat):Int),.int .i64 ((A.length+1+j:Nat):Int)]∧i≤j∧j≤V.length∧d=j - i∧h1=h∧(∀ (t:Nat) (y:α),t < i→V[t]? =some y→key y < key u)∧(∀ (t:Nat) (y:α),j≤t→V[t]? =some y→key u≤key y)) V.length
  ⟨0,V.length,rfl,Nat.zero_le _,Nat.le_refl _,rfl,rfl,fun t y ht _=>by omega,fun t y ht hy=>by have:=(List.getElem?_eq_some_iff.1 hy).1;omega⟩ ?_
 rintro d vs h1 ⟨i,j,rfl,hij,hj,rfl,rfl,hl,hr⟩
 simp only[g0,g1]
 refine ig (fun hlt=>dL ?_) (fun hge=>dO ?_)
 ·refine iV (A.length+1+i+(A.length+1+j)) (by omega) (by omega) (Ht (by omega) ?_)
  obtain⟨m,hm⟩:∃ m,m=(i+j) / 2:=⟨_,rfl⟩
  have e1:(A.length+1+i+(A.length+1+j)) / 2=A.length+1+m:=by omega
  rw[e1]
  obtain⟨y,hy⟩:∃ y,V[m]? =some y:=⟨_,List.getElem?_eq_getElem (by omega)⟩
  have hy2:(A++([u]++(V++B)))[A.length+1+m]? =some y:=by
   rw[←List.append_assoc];exact zG hy (by simp)
  refine dw r hy2 rfl fun b1 o1 cy Fy ay ry _=>SEl.ld ay ry ?_
  refine dw r hu1 rfl fun b2 o2 cu Fu au ru _=>SEl.ld au ru ?_
  refine uL (hc _ (Kp.refl _ _) y u cy cu Fy Fu (hv y (List.mem_of_getElem? hy)) hu ry ru) ?_
  refine ig (fun hneg=>?_) (fun hnn=>?_)
  ·have hk:=uZ.1 hneg
   refine gP (dL (iV (A.length+1+(m+1)) (by omega) (by omega) (bN (dN (bN (dN ⟨j - (m+1),by omega,m+1,j,rfl,by omega,hj,rfl,rfl,fun t z ht hz=>?_,hr⟩))))))
   have:=sv.at_ (show t≤m by omega) hz hy
   omega
  ·have hk: ¬ key y < key u:=fun hlt=>hnn (uZ.2 hlt)
   refine gP (dO (bN (dN (bN (dN ⟨m - i,by omega,i,m,rfl,by omega,by omega,rfl,rfl,hl,fun t z ht hz=>?_⟩)))))
   have:=sv.at_ ht hy hz
   omega
 ·have:j=i:=by omega
  subst this
  refine bN (jC (by decide) (je (by decide) (jf ?_)))
  simp only[g0]
  have eV:A++([u]++(V++B))=A++u::(V.take j++V.drop j++B):=by rw[List.take_append_drop];rfl
  have hfin:A++(bS key ([u]++V)++B)=mvR (A++([u]++(V++B))) A.length j:=by
   rw[eV,ajr j (V.take j) (V.drop j) (by simp;omega)]
   have:=ae2 (key:=key) (u:=u) (xs:=V.take j) (ys:=V.drop j) (by rw[List.take_append_drop];exact sv) (fun x hx=>by
    obtain⟨t,ht⟩:=List.mem_iff_getElem?.1 hx
    rw[List.getElem?_take] at ht
    split at ht
    ·rename_i hlt;exact hl t x hlt ht
    ·cases ht) (fun x hx=>by
    obtain⟨t,ht⟩:=List.mem_iff_getElem?.1 hx
    rw[List.getElem?_drop] at ht
    exact hr _ x (by omega) ht)
   rw[List.take_append_drop] at this
   show A++(bS key (u::V)++B)=_
   rw[this];simp
  rw[hfin]
  refine aX j (fun q vs h2=>vs=[.int .i64 ((A.length+q:Nat):Int)]∧q≤j∧dQ n h1 v F (mvR (A++([u]++(V++B))) A.length q) h2) ⟨rfl,Nat.zero_le _,dQ.refl r o⟩ ?_
  rintro q vs h2 _ ⟨rfl,hq,k2,F2,p2,r2,o2⟩
  have hlen:∀ q,(mvR (A++([u]++(V++B))) A.length q).length=A.length+(1+(V.length+B.length)):=by
   intro q
   induction q with
   |zero=>simp[mvR];omega
   |succ q ih=>simp only[mvR,GV,ih]
  simp only[g0]
  refine gZ (A.length+j) (by omega) (by omega) (ig (fun hlt=>dL ?_) (fun hge=>dO ?_))
  ·have hq1:=hlen q
   obtain⟨x,hx⟩:∃ x,(mvR (A++([u]++(V++B))) A.length q)[A.length+q]? =some x:=⟨_,List.getElem?_eq_getElem (by omega)⟩
   obtain⟨y,hy⟩:∃ y,(mvR (A++([u]++(V++B))) A.length q)[A.length+q+1]? =some y:=⟨_,List.getElem?_eq_getElem (by omega)⟩
   obtain⟨c1,c2,g1',g2',g3'⟩:=Ie (P:=P) r2 o2 hx hy (by omega)
   refine iV (A.length+q+1) (by omega) (by omega) (iV (A.length+q+1) (by omega) (by omega) (g2' _ _ (g1' _ _ (g3' _ _ fun h' F' k' p' r' o'=>?_))))
   exact iV (A.length+(q+1)) (by omega) (by omega) (bN (dN ⟨by omega,rfl,by omega,dQ.trans k2 p2 ⟨k',F',p',r',o'⟩⟩))
  ·have:q=j:=by omega
   subst this
   exact bN (jC (by decide) (je (by decide) (jf (nu ⟨rfl,_,rfl,k2,F2,p2,r2,o2⟩))))
theorem af6 {cm cr:FuncId} {c:AV} {h:AH} {v:AV} {A U B:List α} {u:α} {F:List Nat} (r:ah h v (A++(U++([u]++B))) F) (o:Own n h F) (hc:nS P key U0 h F c) (hu:U0 u) (hv:∀ x∈U,U0 x) (sv:Srt key U) (h1U:U.length≠1):
  (xV (Cel.w α) (SEl.lo α) cr cm v (.int .i64 (A.length:Int)) (.int .i64 ((A.length+U.length:Nat):Int)) (.int .i64 ((A.length+U.length+1:Nat):Int)) c).awp P h (vX n h v F (A++(bS key (U++[u])++B))):=by
 have hsm:=r.small
 simp only[List.length_append,List.length_singleton] at hsm
 obtain⟨f,caps,rfl,hc⟩:=hc
 unfold xV
 refine gZ U.length (by omega) (by omega) (xD (fun e=>absurd e (by omega)) (fun _=>dO ?_))
 refine gZ 1 (by omega) (by omega) (xD (fun _=>dL ?_) (fun hn=>absurd rfl hn))
 have hu1:(A++(U++([u]++B)))[A.length+U.length]? =some u:=by
  rw[←List.append_assoc];exact zG (t:=0) rfl (by simp)
 refine mo (fun d vs h1=>∃ i j:Nat,vs=[.int .i64 ((A.length+i:Nat):Int),.int .i64 ((A.length+j:Nat):Int)]∧i≤j∧j≤U.length∧d=j - i∧h1=h∧(∀ (t:Nat) (y:α),t < i→U[t]? =some y→key y≤key u)∧(∀ (t:Nat) (y:α),j≤t→U[t]? =some y→key u < key y)) U.length
  ⟨0,U.length,rfl,Nat.zero_le _,Nat.le_refl _,rfl,rfl,fun t y ht _=>by omega,fun t y ht hy=>by have:=(List.getElem?_eq_some_iff.1 hy).1;omega⟩ ?_
 rintro d vs h1 ⟨i,j,rfl,hij,hj,rfl,rfl,hl,hr⟩
 simp only[g0,g1]
 refine ig (fun hlt=>dL ?_) (fun hge=>dO ?_)
 ·refine iV (A.length+i+(A.length+j)) (by omega) (by omega) (Ht (by omega) ?_)
  obtain⟨m,hm⟩:∃ m,m=(i+j) / 2:=⟨_,rfl⟩
  have e1:(A.length+i+(A.length+j)) / 2=A.length+m:=by omega
  rw[e1]
  obtain⟨y,hy⟩:∃ y,U[m]? =some y:=⟨_,List.getElem?_eq_getElem (by omega)⟩
  have hy2:(A++(U++([u]++B)))[A.length+m]? =some y:=zG hy rfl
  refine dw r hu1 rfl fun b2 o2 cu Fu au ru _=>SEl.ld au ru ?_
  refine dw r hy2 rfl fun b1 o1 cy Fy ay ry _=>SEl.ld ay ry ?_
  refine uL (hc _ (Kp.refl _ _) u y cu cy Fu Fy hu (hv y (List.mem_of_getElem? hy)) ru ry) ?_
  refine ig (fun hneg=>?_) (fun hnn=>?_)
  ·have hk:=uZ.1 hneg
   refine uU (gP (dO (bN (dN (bN (dN ⟨m - i,by omega,i,m,rfl,by omega,by omega,rfl,rfl,hl,fun t z ht hz=>?_⟩))))))
   have:=sv.at_ ht hy hz
   omega
  ·have hk: ¬ key u < key y:=fun hlt=>hnn (uZ.2 hlt)
   refine sJ (gP (dL (iV (A.length+(m+1)) (by omega) (by omega) (bN (dN (bN (dN ⟨j - (m+1),by omega,m+1,j,rfl,by omega,hj,rfl,rfl,fun t z ht hz=>?_,hr⟩)))))))
   have:=sv.at_ (show t≤m by omega) hz hy
   omega
 ·have:j=i:=by omega
  subst this
  refine bN (jC (by decide) (je (by decide) (jf ?_)))
  simp only[g0]
  have eV:A++(U++([u]++B))=A++(U.take j++U.drop j++u::B):=by rw[List.take_append_drop];rfl
  have hfin:A++(bS key (U++[u])++B)=mvL (A++(U++([u]++B))) (A.length+U.length) (U.length - j):=by
   rw[eV,ajs (U.length - j) (U.take j) (U.drop j) (by simp) (by simp;omega)]
   have:=afq (key:=key) (u:=u) (xs:=U.take j) (ys:=U.drop j) (by rw[List.take_append_drop];exact sv) (fun x hx=>by
    obtain⟨t,ht⟩:=List.mem_iff_getElem?.1 hx
    rw[List.getElem?_take] at ht
    split at ht
    ·rename_i hlt;exact hl t x hlt ht
    ·cases ht) (fun x hx=>by
    obtain⟨t,ht⟩:=List.mem_iff_getElem?.1 hx
    rw[List.getElem?_drop] at ht
    exact hr _ x (by omega) ht)
   rw[List.take_append_drop] at this
   rw[this];simp
  rw[hfin]
  refine aX (U.length - j) (fun q vs h2=>vs=[.int .i64 ((A.length+U.length - q:Nat):Int)]∧q≤U.length - j∧dQ n h1 v F (mvL (A++(U++([u]++B))) (A.length+U.length) q) h2) ⟨rfl,Nat.zero_le _,dQ.refl r o⟩ ?_
  rintro q vs h2 _ ⟨rfl,hq,k2,F2,p2,r2,o2⟩
  have hlen:∀ q,(mvL (A++(U++([u]++B))) (A.length+U.length) q).length=A.length+(U.length+(1+B.length)):=by
   intro q
   induction q with
   |zero=>simp[mvL];omega
   |succ q ih=>simp only[mvL,GV,ih]
  simp only[g0]
  refine zX (fun hlt=>dL ?_) (fun hge=>dO ?_)
  ·have hq1:=hlen q
   obtain⟨x,hx⟩:∃ x,(mvL (A++(U++([u]++B))) (A.length+U.length) q)[A.length+U.length - q]? =some x:=⟨_,List.getElem?_eq_getElem (by omega)⟩
   obtain⟨y,hy⟩:∃ y,(mvL (A++(U++([u]++B))) (A.length+U.length) q)[A.length+U.length - q - 1]? =some y:=⟨_,List.getElem?_eq_getElem (by omega)⟩
   obtain⟨c1,c2,g1',g2',g3'⟩:=Ie (P:=P) r2 o2 hx hy (by omega)
   refine gZ (A.length+U.length - q - 1) (by omega) (by omega) (gZ (A.length+U.length - q - 1) (by omega) (by omega) (g2' _ _ (g1' _ _ (g3' _ _ fun h' F' k' p' r' o'=>?_))))
   exact gZ (A.length+U.length - (q+1)) (by omega) (by omega) (bN (dN ⟨by omega,rfl,by omega,dQ.trans k2 p2 ⟨k',F',p',r',o'⟩⟩))
  ·have:q=U.length - j:=by omega
   subst this
   exact bN (jC (by decide) (je (by decide) (jf (nu ⟨rfl,_,rfl,k2,F2,p2,r2,o2⟩))))
end
end Go.Ab
end
section
namespace Go.Ab
open Go.RowKit
theorem KV {P:Program} {h:AH} {Q:Nat→List AV→AH→Prop} {a b c d:Int} {p:Prog} {kn:List AV→Prog} {ka:Nat→List AV→Prog} (R:AH→Prop) (h1:a < b→c < d→p.awp P h fun t vs h2=>t=0∧R h2) (h2: ¬ (a < b∧c < d)→R h) (hk:∀ vs h2,R h2→(kn vs).awp P h2 Q):
  (Prog.op (.bin 0 .lss (.int .i64 a) (.int .i64 b)) fun v96=>.gop v96 true (.mv (.int .i64 c)) fun v97=>.gop v96 true (.mv (.int .i64 d)) fun v98=>.gop v96 true (.bin 0 .lss v97 v98) fun v99=>.op (.pick v96 v99 (.bool false)) fun qW=>.scope (.ite qW p (.leaf 0 [])) kn ka).awp P h Q:=by
 refine ig (fun x=>iF (pY (iF (pY (iF (ig (fun y=>?_) (fun y=>?_))))))) (fun x=>?_)
 ·refine mY (gP (dL (Prog.sI _ (h1 x y) ?_)))
  rintro t vs h3 ⟨rfl,hR⟩
  exact dN (hk vs h3 hR)
 ·exact mY (gP (dO (bN (dN (hk _ _ (h2 fun g=>y g.2))))))
 ·iterate 3 refine qF ?_
  exact sF (gP (dO (bN (dN (hk _ _ (h2 fun g=>x g.1))))))
section
variable{α:Type} [Cel α] [SEl α] {P:Program} {n:Nat} {key:α→Int} {U0:α→Prop}
theorem agV {cm cr:FuncId} {c:AV} (hr:Jr α P cr c) {N:Nat} (ih:NP α P key U0 cm c N) {h:AH} {v:AV} {A U V B:List α} {F:List Nat} (hN:U.length+V.length≤N+1) (r:ah h v (A++(U++(V++B))) F) (o:Own n h F) (hc:nS P key U0 h F c) (hu:∀ x∈U,U0 x) (hv:∀ x∈V,U0 x) (su:Srt key U) (sv:Srt key V) (hU:U≠[]) (hV:V≠[]):
  (xV (Cel.w α) (SEl.lo α) cr cm v (.int .i64 (A.length:Int)) (.int .i64 ((A.length+U.length:Nat):Int)) (.int .i64 ((A.length+U.length+V.length:Nat):Int)) c).awp P h (vX n h v F (A++(bS key (U++V)++B))):=by
 have hUl:=List.length_pos_iff.2 hU
 have hVl:=List.length_pos_iff.2 hV
 by_cases h1:U.length=1
 ·obtain⟨u,rfl⟩:=List.length_eq_one_iff.1 h1
  exact af7 r o hc (hu u (by simp)) hv sv
 by_cases h2:V.length=1
 ·obtain⟨u,rfl⟩:=List.length_eq_one_iff.1 h2
  exact af6 r o hc (hv u (by simp)) hu su h1
 have hsm:=r.small
 simp only[List.length_append] at hsm
 have hc0:=hc
 obtain⟨f,caps,rfl,hc⟩:=hc
 unfold xV
 refine gZ U.length (by omega) (by omega) (xD (fun e=>absurd e (by omega)) (fun _=>dO ?_))
 refine gZ V.length (by omega) (by omega) (xD (fun e=>absurd e (by omega)) (fun _=>dO ?_))
 obtain⟨H,hH⟩:∃ H,H=(U.length+V.length) / 2:=⟨_,rfl⟩
 refine iV (A.length+(A.length+U.length+V.length)) (by omega) (by omega) (Ht (by omega) ?_)
 have e1:(A.length+(A.length+U.length+V.length)) / 2=A.length+H:=by omega
 rw[e1]
 refine iV (A.length+H+(A.length+U.length)) (by omega) (by omega) ?_
 refine zX (fun hlt=>?_) (fun hge=>?_)
 all_goals refine gP (Prog.sI (Q:=fun t vs h'=>t=0∧h'=h∧∃ lo hi:Nat,vs=[.int .i64 ((A.length+lo:Nat):Int),.int .i64 ((A.length+hi:Nat):Int)]∧lo≤hi∧hi≤U.length∧hi≤H∧H≤lo+V.length∧(lo=0∨H - lo=V.length)∧(hi=U.length∨hi=H)) _ ?_ ?_)
 ·exact dL (gZ (A.length+(H - V.length)) (by omega) (by omega) (bN ⟨rfl,rfl,H - V.length,H,rfl,by omega,by omega,by omega,by omega,by omega,.inr rfl⟩))
 rotate_left 1
 ·exact dO (bN ⟨rfl,rfl,0,U.length,rfl,by omega,by omega,by omega,by omega,.inl rfl,.inl rfl⟩)
 all_goals
  rintro t vs h' ⟨rfl,rfl,lo,hi,rfl,hlh,hiU,hiH,alG,hlo,hhi⟩
  refine dN ?_
  simp only[g0,g1]
  refine gZ (A.length+H+(A.length+U.length) - 1) (by omega) (by omega) ?_
  refine mo (fun d vs h1=>∃ s r':Nat,vs=[.int .i64 ((A.length+s:Nat):Int),.int .i64 ((A.length+r':Nat):Int)]∧lo≤s∧s≤r'∧r'≤hi∧d=r' - s∧h1=h'∧
   (s=lo∨∃ x y,U[s - 1]? =some x∧V[H - s]? =some y∧key x≤key y)∧(r'=hi∨∃ x y,U[r']? =some x∧V[H - 1 - r']? =some y∧key y < key x)) (hi - lo) ⟨lo,hi,rfl,Nat.le_refl _,hlh,Nat.le_refl _,rfl,rfl,.inl rfl,.inl rfl⟩ ?_
  rintro d vs h1 ⟨s,r',rfl,hs1,hs2,hs3,rfl,rfl,hs,hr'⟩
  simp only[g0,g1]
  refine ig (fun hlt2=>dL ?_) (fun vR=>dO ?_)
  ·refine iV (A.length+s+(A.length+r')) (by omega) (by omega) (Ht (by omega) ?_)
   obtain⟨m,hm⟩:∃ m,m=(s+r') / 2:=⟨_,rfl⟩
   have e2:(A.length+s+(A.length+r')) / 2=A.length+m:=by omega
   rw[e2]
   refine gZ (A.length+(U.length+(H - 1 - m))) (by omega) (by omega) ?_
   obtain⟨x,hx⟩:∃ x,U[m]? =some x:=⟨_,List.getElem?_eq_getElem (by omega)⟩
   obtain⟨y,hy⟩:∃ y,V[H - 1 - m]? =some y:=⟨_,List.getElem?_eq_getElem (by omega)⟩
   have hx2:(A++(U++(V++B)))[A.length+m]? =some x:=zG hx rfl
   have hy2:(A++(U++(V++B)))[A.length+(U.length+(H - 1 - m))]? =some y:=by
    rw[←List.append_assoc];exact zG hy (by simp;omega)
   refine dw r hy2 rfl fun b1 o1 cy Fy ay ry _=>SEl.ld ay ry ?_
   refine dw r hx2 rfl fun b2 o2 cx Fx ax rx _=>SEl.ld ax rx ?_
   refine uL (hc _ (Kp.refl _ _) y x cy cx Fy Fx (hv y (List.mem_of_getElem? hy)) (hu x (List.mem_of_getElem? hx)) ry rx) ?_
   refine ig (fun hneg=>?_) (fun hnn=>?_)
   ·have hk:=uZ.1 hneg
    exact uU (gP (dO (bN (dN (bN (dN ⟨m - s,by omega,s,m,rfl,hs1,by omega,by omega,rfl,rfl,hs,.inr ⟨x,y,hx,hy,hk⟩⟩))))))
   ·have hk: ¬ key y < key x:=fun hlt=>hnn (uZ.2 hlt)
    exact sJ (gP (dL (iV (A.length+(m+1)) (by omega) (by omega) (bN (dN (bN (dN ⟨r' - (m+1),by omega,m+1,r',rfl,by omega,by omega,hs3,rfl,rfl,.inr ⟨x,y,by simpa using hx,by rw[show H - (m+1)=H - 1 - m by omega];exact hy,by omega⟩,hr'⟩)))))))
  ·have hsr:r'=s:=by omega
   subst hsr
   refine bN (jC (by decide) (je (by decide) (jf ?_)))
   simp only[g0]
   have cut:=ahM (key:=key) (U:=U) (V:=V) (s:=r') (H:=H) su sv (by omega) (by omega) (by omega) (by
    rcases hs with e|e
    ·rcases hlo with e'|e'
     ·exact .inl (by omega)
     ·exact .inr (.inl (by omega))
    ·exact .inr (.inr e)) (by
    rcases hr' with e|e
    ·rcases hhi with e'|e'
     ·exact .inl (by omega)
     ·exact .inr (.inl (by omega))
    ·exact .inr (.inr e))
   obtain⟨U1,hU1⟩:∃ U1,U1=U.take r':=⟨_,rfl⟩
   obtain⟨U2,hU2⟩:∃ U2,U2=U.drop r':=⟨_,rfl⟩
   obtain⟨V1,hV1⟩:∃ V1,V1=V.take (H - r'):=⟨_,rfl⟩
   obtain⟨V2,hV2⟩:∃ V2,V2=V.drop (H - r'):=⟨_,rfl⟩
   have eU:U=U1++U2:=by rw[hU1,hU2,List.take_append_drop]
   have eV:V=V1++V2:=by rw[hV1,hV2,List.take_append_drop]
   have lU1:U1.length=r':=by rw[hU1,List.length_take];omega
   have lU2:U2.length=U.length - r':=by rw[hU2,List.length_drop]
   have lV1:V1.length=H - r':=by rw[hV1,List.length_take];omega
   have lV2:V2.length=V.length - (H - r'):=by rw[hV2,List.length_drop]
   rw[←hU1,←hU2,←hV1,←hV2] at cut
   have sU1:Srt key U1:=by rw[eU] at su;exact su.l
   have sU2:Srt key U2:=by rw[eU] at su;exact su.r
   have sV1:Srt key V1:=by rw[eV] at sv;exact sv.l
   have sV2:Srt key V2:=by rw[eV] at sv;exact sv.r
   have uU1:∀ x∈U1,U0 x:=fun x hx=>hu x (by rw[eU];simp[hx])
   have uU2:∀ x∈U2,U0 x:=fun x hx=>hu x (by rw[eU];simp[hx])
   have uV1:∀ x∈V1,U0 x:=fun x hx=>hv x (by rw[eV];simp[hx])
   have uV2:∀ x∈V2,U0 x:=fun x hx=>hv x (by rw[eV];simp[hx])
   have hnil:∀ {L:List α},L.length=0→L=[]:=fun h=>List.length_eq_zero_iff.1 h
   refine gZ (A.length+(U.length+(H - r'))) (by omega) (by omega) ?_
   have e0:A++(U++(V++B))=(A++U1)++(U2++(V1++(V2++B))):=by rw[eU,eV];simp
   rw[e0] at r
   refine KV (fun h2=>dQ n h1 v F (A++(U1++(V1++((U2++V2)++B)))) h2) (fun c1 c2=>?_) (fun nc=>?_) ?_
   ·have:=hr n h1 v (A++U1) U2 V1 (V2++B) F r o (fun e=>by rw[e] at lU2;simp at lU2;omega) (fun e=>by rw[e] at lV1;simp at lV1;omega)
    refine aL (R:=fun _ h'=>dQ n h1 v F (A++(U1++(V1++((U2++V2)++B)))) h') ?_ (fun u h2 m2=>bN ⟨rfl,m2⟩)
    unfold oq at this
    simp only[List.length_append,lU1,lU2,lV1] at this
    have ea:(A++U1)++((V1++U2)++(V2++B))=A++(U1++(V1++((U2++V2)++B))):=by simp
    rw[ea] at this
    have i1:A.length+r'+(U.length - r')=A.length+U.length:=by omega
    have i2:A.length+U.length+(H - r')=A.length+(U.length+(H - r')):=by omega
    rw[i1,i2] at this
    exact this
   ·have hz:U2=[]∨V1=[]:=by
     rcases Nat.lt_or_ge r' U.length with g1|g1
     ·exact .inr (hnil (by omega))
     ·exact .inl (hnil (by omega))
    have ea:(A++U1)++(U2++(V1++(V2++B)))=A++(U1++(V1++((U2++V2)++B))):=by
     rcases hz with e|e<;>rw[e]<;>simp
    rw[←ea];exact dQ.refl r o
   rintro vs1 h2 ⟨k2,F2,p2,r2,o2⟩
   have hc2:=hc0.kp k2 p2
   refine KV (fun h3=>dQ n h1 v F (A++(bS key (U1++V1)++((U2++V2)++B))) h3) (fun c1 c2=>?_) (fun nc=>?_) ?_
   ·have:=ih n h2 v A U1 V1 ((U2++V2)++B) F2 (by omega) r2 o2 hc2 uU1 uV1 sU1 sV1 (fun e=>by rw[e] at lU1;simp at lU1;omega) (fun e=>by rw[e] at lV1;simp at lV1;omega)
    unfold oq at this
    simp only[lU1,lV1] at this
    have i2:A.length+r'+(H - r')=A.length+H:=by omega
    rw[i2] at this
    exact aL this (fun u h3 m3=>bN ⟨rfl,dQ.trans k2 p2 m3⟩)
   ·have hz:U1=[]∨V1=[]:=by
     rcases Nat.lt_or_ge 0 r' with g1|g1
     ·exact .inr (hnil (by omega))
     ·exact .inl (hnil (by omega))
    have ea:bS key (U1++V1)=U1++V1:=Lu (by
     rcases hz with e|e<;>rw[e]
     ·simpa using sV1
     ·simpa using sU1)
    rw[ea]
    exact⟨k2,F2,p2,by simpa using r2,o2⟩
   rintro vs2 h3 ⟨k3,F3,p3,r3,o3⟩
   have hc3:=hc0.kp k3 p3
   have lW:(bS key (U1++V1)).length=H:=by rw[jP,List.length_append,lU1,lV1];omega
   have ef:A++(bS key (U1++V1)++(bS key (U2++V2)++B))=A++(bS key (U++V)++B):=by rw[←cut];simp
   refine KV (fun h4=>dQ n h1 v F (A++(bS key (U++V)++B)) h4) (fun c1 c2=>?_) (fun nc=>?_) (fun vs3 h4 m4=>nu ⟨rfl,_,rfl,m4⟩)
   ·have eb:A++(bS key (U1++V1)++((U2++V2)++B))=(A++bS key (U1++V1))++(U2++(V2++B)):=by simp
    rw[eb] at r3
    have:=ih n h3 v (A++bS key (U1++V1)) U2 V2 B F3 (by omega) r3 o3 hc3 uU2 uV2 sU2 sV2 (fun e=>by rw[e] at lU2;simp at lU2;omega) (fun e=>by rw[e] at lV2;simp at lV2;omega)
    unfold oq at this
    simp only[List.length_append,lW,lU2,lV2] at this
    have i1:A.length+H+(U.length - r')=A.length+(U.length+(H - r')):=by omega
    have i2:A.length+(U.length+(H - r'))+(V.length - (H - r'))=A.length+U.length+V.length:=by omega
    rw[i1,i2,List.append_assoc,ef] at this
    exact aL this (fun u h4 m4=>bN ⟨rfl,dQ.trans k3 p3 m4⟩)
   ·have hz:U2=[]∨V2=[]:=by
     rcases Nat.lt_or_ge r' U.length with g1|g1
     ·exact .inr (hnil (by omega))
     ·exact .inl (hnil (by omega))
    have ea:bS key (U2++V2)=U2++V2:=Lu (by
     rcases hz with e|e<;>rw[e]
     ·simpa using sV2
     ·simpa using sU2)
    rw[←ef,ea]
    exact⟨k3,F3,p3,by simpa using r3,o3⟩
theorem Vx {cm cr:FuncId} {c:AV} (hr:Jr α P cr c) (hm:∀ x1 x2 x3 v,CC P cm [v,x1,x2,x3,c] (xV (Cel.w α) (SEl.lo α) cr cm v x1 x2 x3 c)):∀ N,NP α P key U0 cm c N:=by
 intro N
 induction N with
 |zero=>
  intro n h v A U V B F hN r o hc hu hv su sv hU hV
  have:=List.length_pos_iff.2 hU
  omega
 |succ N ih=>
  intro n h v A U V B F hN r o hc hu hv su sv hU hV
  exact hm _ _ _ _ (agV hr ih hN r o hc hu hv su sv hU hV)
end
end Go.Ab
end
section
namespace Go.Ab
open Go.RowKit
section
variable{α:Type} [Cel α] [SEl α] {P:Program} {n:Nat} {key:α→Int} {U0:α→Prop}
def NR (α:Type) [Cel α] [SEl α] (P:Program) (key:α→Int) (U0:α→Prop) (ci:FuncId) (c:AV):Prop:=∀ (n:Nat) (h:AH) (v:AV) (A U B:List α) (F:List Nat),ah h v (A++(U++B)) F→Own n h F→nS P key U0 h F c→(∀ x∈U,U0 x)→
 oq P ci [v,.int .i64 (A.length:Int),.int .i64 ((A.length+U.length:Nat):Int),c] n h v F (A++(bS key U++B))
theorem UF {ci cm:FuncId} {c:AV} (hi:NR α P key U0 ci c) (hm:∀ N,NP α P key U0 cm c N) {h:AH} {v:AV} {xs:List α} {F:List Nat} (r:ah h v xs F) (o:Own n h F) (hc:nS P key U0 h F c) (hu:∀ x∈xs,U0 x):
  (Yn ci cm v (.int .i64 (xs.length:Int)) c).awp P h (vX n h v F (bS key xs)):=by
 have hsm:=r.small
 unfold Yn
 refine mo (fun N vs h1=>∃ (q:Nat) (Z:List α),vs=[.int .i64 (Z.length:Int),.int .i64 ((Z.length+20:Nat):Int)]∧Z.length=q * 20∧Z.length≤xs.length∧N=xs.length - Z.length∧Runs key 20 Z∧bY key (xs.take Z.length) Z∧dQ n h v F (Z++xs.drop Z.length) h1) xs.length ⟨0,[],rfl,rfl,Nat.zero_le _,rfl,Runs.one (by decide) (by simp) List.Pairwise.nil,bY.refl,dQ.refl r o⟩ ?_
 rintro N vs h1 ⟨q,Z,rfl,hq,hZ,rfl,runs,Ye,k1,F1,p1,r1,o1⟩
 simp only[g0,g1]
 refine MN (fun hle=>dL ?_) (fun hgt=>dO ?_)
 ·obtain⟨U,hU⟩:∃ U,U=(xs.drop Z.length).take 20:=⟨_,rfl⟩
  have lU:U.length=20:=by rw[hU];simp;omega
  have eU:xs.drop Z.length=U++xs.drop (Z.length+20):=by rw[hU,←List.drop_drop,List.take_append_drop]
  rw[eU] at r1
  have:=hi n h1 v Z U (xs.drop (Z.length+20)) F1 r1 o1 (hc.kp k1 p1) (fun x hx=>hu x (by rw[hU] at hx;exact List.mem_of_mem_drop (List.mem_of_mem_take hx)))
  rw[lU] at this
  refine aL this (fun u h2 m2=>?_)
  refine iV (Z.length+20+20) (by omega) (by omega) (bN (dN ⟨xs.length - (Z.length+20),by omega,q+1,Z++bS key U,?_,?_,?_,?_,?_,?_,?_⟩))
  ·simp only[List.length_append,jP,lU]
  ·simp only[List.length_append,jP,lU];omega
  ·simp only[List.length_append,jP,lU];omega
  ·simp only[List.length_append,jP,lU]
  ·exact Runs.app hq runs (Runs.one (by decide) (by rw[jP,lU];exact Nat.le_refl _) sj)
  ·simp only[List.length_append,jP,lU]
   have:xs.take (Z.length+20)=xs.take Z.length++U:=by rw[hU,List.take_add]
   rw[this];exact Ye.app rV
  ·simp only[List.length_append,jP,lU]
   have m3:=dQ.trans k1 p1 m2
   simpa only[List.append_assoc] using m3
 ·refine bN (jC (by decide) (je (by decide) (jf ?_)))
  simp only[g0]
  have this:=hi n h1 v Z (xs.drop Z.length) [] F1 (by simpa using r1) o1 (hc.kp k1 p1) (fun x hx=>hu x (List.mem_of_mem_drop hx))
  have e1:Z.length+(xs.drop Z.length).length=xs.length:=by simp;omega
  rw[e1,List.append_nil] at this
  refine aL this (fun u h2 m2=>?_)
  have m2:=dQ.trans k1 p1 m2
  have Yl:Runs key 20 (Z++bS key (xs.drop Z.length)):=Runs.app hq runs (Runs.one (by decide) (by rw[jP];simp;omega) sj)
  have Xt:bY key xs (Z++bS key (xs.drop Z.length)):=by
   have:=Ye.app (rV (key:=key) (xs:=xs.drop Z.length))
   rwa [List.take_append_drop] at this
  have len2:(Z++bS key (xs.drop Z.length)).length=xs.length:=by rw[List.length_append,jP];exact e1
  refine mo (fun N vs h3=>∃ (bs:Nat) (ys:List α) (w1 w2:AV),vs=[.int .i64 (bs:Int),w1,w2]∧0 < bs∧bs≤562949953421312∧N=xs.length - bs∧Runs key bs ys∧bY key xs ys∧ys.length=xs.length∧dQ n h v F ys h3) (xs.length - 20) ⟨20,_,_,_,rfl,by decide,by decide,rfl,Yl,Xt,len2,m2⟩ ?_
  rintro N vs h3 ⟨bs,ys,w1,w2,rfl,hb0,hb1,rfl,Yk,Xr,Yy,m3⟩
  clear Yl Xt len2 m2 r1 o1 this
  simp only[g0,g1]
  refine ig (fun hlt=>dL ?_) (fun hge=>dO ?_)
  ·refine Hq (2 * bs) (by omega) (by omega) ?_
   refine mo (fun N vs h4=>∃ (q:Nat) (Z R:List α),vs=[.int .i64 (Z.length:Int),.int .i64 ((Z.length+2 * bs:Nat):Int)]∧Z.length=q * (2 * bs)∧Z.length+R.length=xs.length∧N=R.length∧Runs key (2 * bs) Z∧Runs key bs R∧bY key xs (Z++R)∧dQ n h v F (Z++R) h4) xs.length ⟨0,[],ys,by simp,by simp,by simpa using Yy,Yy.symm,Runs.one (by omega) (by simp) List.Pairwise.nil,Yk,Xr,m3⟩ ?_
   rintro N vs h4 ⟨q,Z,R,rfl,hq,hlen,rfl,rz,rr,st4,k4,F4,p4,r4,o4⟩
   have uR:∀ x∈R,U0 x:=fun x hx=>hu x ((st4.mem x).1 (by simp[hx]))
   simp only[g0,g1]
   refine MN (fun hle=>dL ?_) (fun hgt=>dO ?_)
   ·refine iV (Z.length+bs) (by omega) (by omega) ?_
    obtain⟨U,hU⟩:∃ U,U=R.take bs:=⟨_,rfl⟩
    obtain⟨V,hV⟩:∃ V,V=(R.drop bs).take bs:=⟨_,rfl⟩
    have lU:U.length=bs:=by rw[hU];simp;omega
    have lV:V.length=bs:=by rw[hV];simp;omega
    have eR:R=U++(V++(R.drop bs).drop bs):=by rw[hU,hV,List.take_append_drop,List.take_append_drop]
    have eR2:Z++R=Z++(U++(V++(R.drop bs).drop bs)):=by rw[←eR]
    rw[eR2] at r4
    have this:=hm _ n h4 v Z U V ((R.drop bs).drop bs) F4 (Nat.le_refl _) r4 o4 (hc.kp k4 p4) (fun x hx=>uR x (by rw[eR];simp[hx])) (fun x hx=>uR x (by rw[eR];simp[hx])) (by rw[hU];exact rr.head) (by rw[hV];exact rr.tail.head) (fun e=>by rw[e] at lU;simp at lU;omega) (fun e=>by rw[e] at lV;simp at lV;omega)
    rw[lU,lV] at this
    have i1:Z.length+bs+bs=Z.length+2 * bs:=by omega
    rw[i1] at this
    refine aL this (fun u h5 m5=>?_)
    refine Hq (2 * bs) (by omega) (by omega) (iV (Z.length+2 * bs+2 * bs) (by omega) (by omega) (bN (dN ⟨((R.drop bs).drop bs).length,by simp;omega,q+1,Z++bS key (U++V),(R.drop bs).drop bs,?_,?_,?_,rfl,?_,rr.tail.tail,?_,?_⟩)))
    ·simp only[List.length_append,jP,lU,lV]
     congr 3
     ·congr 1;omega
     ·congr 2;omega
    ·simp only[List.length_append,jP,lU,lV,Nat.add_mul];omega
    ·simp only[List.length_append,jP,lU,lV,List.length_drop];omega
    ·exact Runs.app hq rz (Runs.one (by omega) (by rw[jP,List.length_append,lU,lV];omega) sj)
    ·refine st4.trans ?_
     rw[eR2]
     have:=(bY.refl (key:=key) (xs:=Z)).app ((rV (key:=key) (xs:=U++V)).app (bY.refl (xs:=(R.drop bs).drop bs)))
     simpa only[List.append_assoc] using this
    ·have:=dQ.trans k4 p4 m5
     simpa only[List.append_assoc] using this
   ·refine bN (jC (by decide) (je (by decide) (jf ?_)))
    simp only[g0,g1]
    refine iV (Z.length+bs) (by omega) (by omega) ?_
    have fin:∀ (W:List α) (h5:AH) (a b:AV),W.length=R.length→Srt key W→bY key R W→dQ n h v F (Z++W) h5→∃ n',n' < xs.length - bs∧∃ (bs':Nat) (ys:List α) (w1 w2:AV),[AV.int .i64 ((bs * 2:Nat):Int),a,b]=[.int .i64 (bs':Int),w1,w2]∧0 < bs'∧bs'≤562949953421312∧n'=xs.length - bs'∧Runs key bs' ys∧bY key xs ys∧ys.length=xs.length∧dQ n h v F ys h5:=fun W h5 a b lW sW stW m5=>by
     refine⟨xs.length - bs * 2,by omega,bs * 2,Z++W,a,b,rfl,by omega,by omega,rfl,?_,st4.trans (bY.refl.app stW),by rw[List.length_append];omega,m5⟩
     rw[Nat.mul_comm]
     exact Runs.app hq rz (Runs.one (by omega) (by omega) sW)
    refine ig (fun hlt2=>gP (dL ?_)) (fun vR=>gP (dO ?_))
    ·obtain⟨U,hU⟩:∃ U,U=R.take bs:=⟨_,rfl⟩
     obtain⟨V,hV⟩:∃ V,V=R.drop bs:=⟨_,rfl⟩
     have lU:U.length=bs:=by rw[hU];simp;omega
     have lV:V.length=R.length - bs:=by rw[hV];simp
     have eR:R=U++V:=by rw[hU,hV,List.take_append_drop]
     have eR2:Z++R=Z++(U++(V++[])):=by rw[eR];simp
     rw[eR2] at r4
     have this:=hm _ n h4 v Z U V [] F4 (Nat.le_refl _) r4 o4 (hc.kp k4 p4) (fun x hx=>uR x (by rw[eR];simp[hx])) (fun x hx=>uR x (by rw[eR];simp[hx])) (by rw[hU];exact rr.head) (by rw[hV];exact rr.tail.all (by rw[←hV,lV];omega)) (fun e=>by rw[e] at lU;simp at lU;omega) (fun e=>by rw[e] at lV;simp at lV;omega)
     rw[lU,lV] at this
     have i1:Z.length+bs+(R.length - bs)=xs.length:=by omega
     rw[i1] at this
     refine aL this (fun u h5 m5=>bN (dN (Hq (bs * 2) (by omega) (by omega) (bN (dN ?_)))))
     rw[List.append_nil] at m5
     exact fin _ _ _ _ (by rw[jP,←eR]) sj (by rw[←eR];exact rV) (dQ.trans k4 p4 m5)
    ·exact bN (dN (Hq (bs * 2) (by omega) (by omega) (bN (dN (fin R _ _ _ rfl (rr.all (by omega)) bY.refl ⟨k4,F4,p4,r4,o4⟩)))))
  ·refine bN (jC (by decide) (je (by decide) (jf (nu ⟨rfl,_,rfl,?_⟩))))
   rw[←Br (Yk.all (by omega)) Xr];exact m3
end
end Go.Ab
end
section
namespace Go.Ab
open Go.RowKit
section
variable{α:Type} [Cel α] {P:Program} {h:AH} {Q:Nat→List AV→AH→Prop} {k:AV→Prog} {n:Nat}
theorem ah.cut {v:AV} {xs:List α} {F:List Nat} (r:ah h v xs F) (o:Own n h F) {k:Nat} (hk:k≤xs.length):
  ∃ u1 u2 B E1 E2,F=B++(E1++E2)∧ah h u1 (xs.take k) (B++E1)∧(B++E1).tail=E1∧ah h u2 (xs.drop k) (B++E2)∧(B++E2).tail=E2∧
   (∀ (h2:AH) (K:AV→AH→Prop),(∀ c∈B,h2.get c=h.get c)→K u1 h2→AOp.go P (.slc (Cel.w α) v none (some (.int .i64 (k:Int))) none) h2 K)∧
   (∀ (h2:AH) (K:AV→AH→Prop),(∀ c∈B,h2.get c=h.get c)→K u2 h2→AOp.go P (.slc (Cel.w α) v (some (.int .i64 (k:Int))) none none) h2 K):=by
 rcases r with⟨rfl,h1,rfl⟩|⟨b,off,F',cs,rfl,rfl,h1,h2,h3,h4,h5,h6,h7⟩
 ·have hx:xs=[]:=List.length_eq_zero_iff.1 h1
  subst hx
  have hk0:k=0:=by simpa using hk
  subst hk0
  refine⟨.aA,.aA,[],[],[],rfl,ah.aA,rfl,ah.aA,rfl,fun h2 K _ hK=>?_,fun h2 K _ hK=>?_⟩
  ·simp only[AOp.go,bnd,pK]
   exact⟨by trivial,by trivial,by trivial,hK⟩
  ·simp only[AOp.go,bnd,pK]
   exact⟨by trivial,by trivial,by trivial,hK⟩
 ·have hsp:xs=xs.take k++xs.drop k:=(List.take_append_drop _ _).symm
  have h7':=h7
  rw[hsp] at h7'
  obtain⟨c1,c2,E1,E2,e1,rfl,q1,q2⟩:=h7'.Gz
  have l1:=q1.length
  have l2:=q2.length
  rw[List.length_take,Nat.min_eq_left hk] at l1
  rw[List.length_drop] at l2
  have hst:(h.get b).st=0:=(o.2 b (by simp)).2
  have hw:=Cel.pos (α:=α)
  have hmul:xs.length * Cel.w α=k * Cel.w α+(xs.length - k) * Cel.w α:=by rw[←Nat.add_mul];congr 1;omega
  have ec:=h6
  rw[e1] at ec
  have t1:c1=((h.get b).cells.drop off).take (k * Cel.w α):=by
   have:=congrArg (List.take (k * Cel.w α)) ec
   rw[List.take_append_of_le_length (by omega),List.take_of_length_le (by omega),List.take_take,Nat.min_eq_left (by omega)] at this
   exact this
  have t2:c2=((h.get b).cells.drop (off+k * Cel.w α)).take ((xs.length - k) * Cel.w α):=by
   have:=congrArg (List.drop (k * Cel.w α)) ec
   rw[List.drop_append_of_le_length (by omega),List.drop_of_length_le (by omega),List.nil_append,List.drop_take,List.drop_drop] at this
   rw[this];congr 1;omega
  refine⟨.sl b off k,.sl b (off+k * Cel.w α) (xs.length - k),[b],E1,E2,rfl,.inr ⟨b,off,E1,c1,by rw[List.length_take,Nat.min_eq_left hk],rfl,h1,h2,h3,?_,?_,?_,q1⟩,rfl,.inr ⟨b,off+k * Cel.w α,E2,c2,by rw[List.length_drop],rfl,h1,h2,h3,?_,?_,?_,q2⟩,rfl,fun h2 K hb hK=>?_,fun h2 K hb hK=>?_⟩
  ·rw[List.length_take,Nat.min_eq_left hk];omega
  ·rw[List.length_take,Nat.min_eq_left hk];omega
  ·rw[List.length_take,Nat.min_eq_left hk];exact t1
  ·rw[List.length_drop];omega
  ·rw[List.length_drop];omega
  ·rw[List.length_drop];exact t2
  ·have hb:=hb b (by simp)
   simp only[AOp.go,bnd,pK]
   have hle:k * Cel.w α≤xs.length * Cel.w α:=Nat.mul_le_mul_right _ hk
   refine⟨by omega,by rw[hb];exact h3,by unfold mine;rw[hb];exact hst,by rw[hb];exact h4,Int.le_refl _,Int.natCast_nonneg _,by rw[hb];simp;omega,?_⟩
   simpa using hK
  ·have hb:=hb b (by simp)
   simp only[AOp.go,bnd,pK]
   refine⟨by omega,by rw[hb];exact h3,by unfold mine;rw[hb];exact hst,by rw[hb];exact h4,Int.natCast_nonneg _,by omega,by rw[hb];simpa using h4,?_⟩
   have:((xs.length:Int) - (k:Int)).toNat=xs.length - k:=by omega
   simpa[this] using hK
theorem M7 {o:AOp} (g:o.go P h fun v h'=>(k v).awp P h' Q):(Prog.op o k).awp P h Q:=g
end
end Go.Ab
end
section
namespace Go.Ab
open Go.RowKit Go.ChangeShapes
instance:Cel UInt8 where
 w:=1
 ok:=fun _=>True
 rep:=fun h x cs F=>cs=[.int .u8 (x.toNat:Int)]∧F=[]
 pos:=by decide
 len:=by rintro h x cs F ⟨rfl,rfl⟩;rfl
 lt:=by rintro h x cs F ⟨rfl,rfl⟩;simp
 keep:=by rintro h h' x cs F r _;exact r
section
variable{P:Program}
theorem K3 {t:TypeId} {fuel:Nat} (ht:P.underlying t=some (.int .u8)):tH UInt8 P t fuel:=by
 intro H enc W held cs d ps hd _ w0 m h s
 obtain⟨n,rfl,_,hw⟩:=DataW.trod_int ht hd
 simp only[Lit.wf,Bool.and_eq_true,decide_eq_true_eq] at hw
 have h1:IntKind.u8.min=0:=by decide
 have h2:IntKind.u8.max=255:=by decide
 obtain⟨k,rfl⟩:∃ k:Nat,n=(k:Int):=⟨n.toNat,by omega⟩
 have hk:((UInt8.ofNat k).toNat:Int)=(k:Int):=by
  rw[UInt8.toNat_ofNat'];omega
 exact⟨m,h,[.int .u8 (k:Int)],UInt8.ofNat k,[],Ext.refl _,m.le_refl,s,La (by simp only[aH]),by simp[Value.oneCell'],⟨by rw[hk],rfl⟩,trivial⟩
end
section
variable{P:Program} {h:AH} {Q:Nat→List AV→AH→Prop} {k:AV→Prog}
theorem bA {b o:Nat} (hk:(k (.ptr b o)).awp P h Q):(Prog.op (.bZ (.ptr b o)) k).awp P h Q:=hk
theorem MO {a m:Int} (h0:0≤m) (hm:m < 9223372036854775808) (hk:∀ x:Int,0≤x→x≤m→(k (.int .i64 x)).awp P h Q):(Prog.op (.bin 0 .and (.int .i64 a) (.int .i64 m)) k).awp P h Q:=by
 obtain⟨m,rfl⟩:∃ n:Nat,m=(n:Int):=⟨m.toNat,by omega⟩
 simp only[Prog.awp,AOp.go,fI,eY,if_true]
 have e:(BitVec.ofInt IntKind.i64.bits a &&& BitVec.ofInt IntKind.i64.bits (m:Int)).toNat≤m:=by
  rw[BitVec.toNat_and]
  refine Nat.le_trans Nat.and_le_right ?_
  rw[BitVec.toNat_ofInt]
  have:IntKind.i64.bits=64:=rfl
  rw[this]
  omega
 rw[kJ (by omega) (by omega)]
 exact hk _ (by omega) (by omega)
theorem Ml {a b:Int} (h1: -9223372036854775808≤a * b) (h2:a * b≤9223372036854775807) (hk:(k (.int .i64 (a * b))).awp P h Q):(Prog.op (.bin 0 .mul (.int .i64 a) (.int .i64 b)) k).awp P h Q:=Cq (by rw[kJ h1 h2];exact hk)
theorem Xf {a b:Int} (hb: ¬ b < 0) (hk:∀ x:Int,(k (.int .i64 x)).awp P h Q):(Prog.op (.bin 0 .shr (.int .i64 a) (.int .u64 b)) k).awp P h Q:=by
 simp only[Prog.awp,AOp.go,fI,eY,if_neg hb]
 exact hk _
theorem ajC {a b:Int} (hk:∀ x:Int,(k (.int .i64 x)).awp P h Q):(Prog.op (.bin 0 .xor (.int .i64 a) (.int .i64 b)) k).awp P h Q:=by
 simp only[Prog.awp,AOp.go,fI,eY,if_true]
 exact hk _
end
theorem vs0 {A B:Prop} (hb:B) (s:B→A:=by((apply it;(first|(with_reducible first|exact dL|exact pI|exact iH|exact mY|exact ML|exact iF|exact uM|exact wK|exact qF)|((with_reducible apply tu);first|exact qP uP)|((with_reducible apply zR);first|exact tC (by rfl))|((with_reducible apply qM);first|exact mG (by rfl))|((with_reducible apply zT);exact sQ (by omega) (by omega))|((with_reducible apply uT);first|exact uW kL)|((with_reducible apply wJ);first|exact xR kL (by decide) (by rfl))|((with_reducible apply zF);exact zK uP)));(repeat(apply it;(first|(with_reducible first|exact pY|exact pI|exact iH|exact mY|exact sF|exact iF|exact uM|exact wK|exact qF)|((with_reducible apply vF);first|exact tJ Ci)|((with_reducible apply tu);first|exact qP uP)|((with_reducible apply vE);first|exact vG (by assumption))|((with_reducible apply vJ);first|exact kE (by rfl) (by rfl) LV)|((with_reducible apply qM);first|exact mG (by rfl))|((with_reducible apply MG);exact Hl (by omega) (by omega))|((with_reducible apply wJ);first|exact xR kL (by decide) (by rfl)))));exact fun x=>x)):A:=s hb
section
variable{P:Program} {h:AH} {Q:Nat→List AV→AH→Prop}
theorem Hr {p:Prog} {kn:List AV→Prog} {ka:Nat→List AV→Prog} (R:AH→Prop) (h1:p.awp P h fun t _ h2=>t=0∧R h2) (hk:∀ vs h2,R h2→(kn vs).awp P h2 Q):(Prog.scope p kn ka).awp P h Q:=by
 refine gP (Prog.sI _ h1 ?_)
 rintro t vs h3 ⟨rfl,hR⟩
 exact dN (hk vs h3 hR)
theorem agH {q:IntKind} {a b:Int} {p p':Prog} {kn:List AV→Prog} {ka:Nat→List AV→Prog} (R:AH→Prop) (h1:a=b→p.awp P h fun t _ h2=>t=0∧R h2) (h2:a≠b→p'.awp P h fun t _ h2=>t=0∧R h2) (hk:∀ vs h2,R h2→(kn vs).awp P h2 Q):(Prog.op (.bin 0 .eql (.int q a) (.int q b)) fun v=>.scope (.ite v p p') kn ka).awp P h Q:=
 xD (fun e=>Hr R (dL (h1 e)) hk) (fun e=>Hr R (dO (h2 e)) hk)
end
def Cur (h:AH) (c:Nat):Prop:=∃ (l:List UInt8) (vb:AV) (F:List Nat) (i z:Int),Bk h c [vb,.int .i64 i,.int .i64 z] 0∧ah h vb l F∧(∀ b∈F,b < c)∧0≤i∧i≤l.length
section
variable{g h h':AH} {c b:Nat} {k:Blk} {X:List Nat}
theorem Cur.lt (a:Cur h c):c < h.n:=by obtain⟨l,vb,F,i,z,b,_⟩:=a;exact b.1
theorem BO (a:Cur h c):Cur (h.push k) c:=by
 obtain⟨l,vb,F,i,z,b,r,lt,i0,i1⟩:=a
 exact⟨l,vb,F,i,z,iy b,dU r,lt,i0,i1⟩
theorem wQ (hb:c < b) (a:Cur h c):Cur (h.upd b k) c:=by
 obtain⟨l,vb,F,i,z,bk,r,lt,i0,i1⟩:=a
 exact⟨l,vb,F,i,z,kr bk (by omega),dH r (fun hm=>by have:=lt b hm;omega),lt,i0,i1⟩
theorem Vk (e:Ext g h) (a:Cur g c):Cur h c:=by
 obtain⟨l,vb,F,i,z,bk,r,lt,i0,i1⟩:=a
 exact⟨l,vb,F,i,z,fq e bk,iG e r,lt,i0,i1⟩
theorem w9 (e:Kp g h X) (a:Cur g c) (hX:∀ b∈X,c < b):Cur h c:=by
 obtain⟨l,vb,F,i,z,bk,r,lt,i0,i1⟩:=a
 exact⟨l,vb,F,i,z,bI e bk (fun hm=>by have:=hX _ hm;omega),aK e r (fun b hb hm=>by have:=hX _ hm;have:=lt b hb;omega),lt,i0,i1⟩
theorem uY (hb:g.n≤b) (e:Kp g h X):Kp g (h.upd b k) X:=by
 refine⟨e.1,fun x hx hX=>?_⟩
 have:x≠b:=by omega
 rw[←e.2 x hx hX]
 simp[this]
theorem ais (e':Kp h h' X) (e:Kp g h X):Kp g h' X:=e.trans e'
theorem U5 (e':Ext h h') (e:Kp g h X):Kp g h' X:=e.Lc e'
theorem uQ {Y:List Nat} (e':Kp h h' Y) (e:Kp g h X) (hY:∀ x∈Y,g.n≤x):Kp g h' X:=e.new e' hY
end
theorem bQ {g h:AH} {X:List Nat} (a:Kp g h X:=by(repeat(first|assumption|with_reducible exact Kp.refl _ _|with_reducible apply Kp.push|((with_reducible apply uY);exact aV)|((with_reducible apply ais);assumption)|((with_reducible apply U5);assumption)|((with_reducible apply uQ);assumption)|exact aio (by assumption) aV))):Kp g h X:=a
theorem aT {h:AH} {c:Nat} (a:Cur h c:=by(repeat(first|assumption|with_reducible apply BO|((with_reducible apply wQ);exact aV)|((with_reducible apply Vk);assumption)))):Cur h c:=a
def DrI (h:AH) (c:Nat) (lo hi:Int):AV→AH→Prop:=fun u h'=>∃ x:Int,u= .int .i64 x∧lo≤x∧x < hi∧Kp h h' [c]∧Cur h' c
def DrB (h:AH) (c:Nat):AV→AH→Prop:=fun u h'=>∃ b:Bool,u= .bool b∧Kp h h' [c]∧Cur h' c
def DrX (α:Type) [Cel α] (h:AH) (c:Nat) (p:α→Prop):AV→AH→Prop:=fun u h'=>∃ x cs F,u= .agg cs∧Cel.rep h' x cs F∧Own h.n h' F∧Kp h h' [c]∧Cur h' c∧p x
def DrS (α:Type) [Cel α] (h:AH) (c:Nat) (p:List α→Prop):AV→AH→Prop:=fun u h'=>∃ xs F,ah h' u xs F∧Own h.n h' F∧Kp h h' [c]∧Cur h' c∧p xs
end Go.Ab
end
section
namespace Go.Ab
open Go.RowKit
structure Elt (α:Type) [Cel α] (n:Nat) (h:AH) (b o:Nat) (E:List AV) (v:AV) (xs:List α) (i:Nat) (R:List Nat):Prop where
 lt:b < h.n
 mem:b∈R
 own:bU n h R
 st:∃ A Z,h.get b=⟨A++(E++Z),Cel.w α,0⟩∧A.length=o∧
  ∀ (h':AH) (x':α) (E':List AV) (Fi':List Nat),h'.get b=⟨A++(E'++Z),Cel.w α,0⟩→h.n≤h'.n→(∀ c∈R,c≠b→h'.get c=h.get c)→Cel.rep h' x' E' Fi'→Own n h' Fi'→(∀ c∈Fi',c ∉ R)→∃ F',ah h' v (xs.set i x') F'∧Own n h' F'∧∀ c∈F',c∈R∨c∈Fi'
section
variable{α:Type} [Cel α] {P:Program} {n b o i:Nat} {g h h':AH} {E E':List AV} {v:AV} {xs:List α} {R X F:List Nat} {Q:Nat→List AV→AH→Prop} {k:AV→Prog}
theorem BU {b:Nat} {F1 G F2:List Nat}:(b::(F1++(G++F2))).Perm ((b::(F1++F2))++G):=by
 rw[List.cons_append,List.append_assoc]
 exact List.Perm.cons _ (List.Perm.append_left _ List.perm_append_comm)
theorem UQ {F G:List Nat} (p:F.Perm G) (o:Own n h G):Own n h F:=⟨p.nodup_iff.2 o.1,fun b hb=>o.2 b (p.mem_iff.1 hb)⟩
theorem ah.elt (r:ah h v xs F) (ow:Own n h F) {x:α} (hx:xs[i]? =some x):∃ b off E Fi R,v= .sl b off xs.length∧Cel.rep h x E Fi∧bU n h Fi∧Elt α n h b (off+i * Cel.w α) E v xs i R∧(∀ c∈Fi,c ∉ R)∧(∀ c∈R,c∈F)∧∀ c∈Fi,c∈F:=by
 have lt:=r.lt
 obtain⟨b,off,A,E,Z,F1,Fi,F2,rfl,rfl,hb,hl,hes,hcs,hA,re,back⟩:=r.zip hx
 have hm:(h.get b).st=0:=(ow.2 b (by simp)).2
 have hg:h.get b=⟨A++(E++Z),Cel.w α,0⟩:=by
  have:h.get b=⟨(h.get b).cells,(h.get b).es,(h.get b).st⟩:=rfl
  rw[this,hcs,hes,hm]
 have o2:=UQ BU.symm ow
 have nd:=List.nodup_append.1 o2.1
 have oR:Own n h (b::(F1++F2)):=⟨nd.1,fun c hc=>o2.2 c (List.mem_append_left _ hc)⟩
 have oF:Own n h Fi:=⟨nd.2.1,fun c hc=>o2.2 c (List.mem_append_right _ hc)⟩
 have mR:∀ c∈b::(F1++F2),c∈b::(F1++(Fi++F2)):=fun c hc=>BU.mem_iff.2 (List.mem_append_left _ hc)
 have mF:∀ c∈Fi,c∈b::(F1++(Fi++F2)):=fun c hc=>BU.mem_iff.2 (List.mem_append_right _ hc)
 refine⟨b,off,E,Fi,b::(F1++F2),rfl,re,⟨oF,fun c hc=>lt c (mF c hc)⟩,⟨hb,List.mem_cons_self,⟨oR,fun c hc=>lt c (mR c hc)⟩,⟨A,Z,hg,hA,fun h' x' E' Fi' hg' hn hk re' ow' hd=>?_⟩⟩,fun c hc hR=>nd.2.2 c hR c hc rfl,mR,mF⟩
 have hbn:b ∉ F1++F2:=(List.nodup_cons.1 nd.1).1
 have kk:∀ c∈F1++F2,h'.get c=h.get c∧c < h'.n:=fun c hc=>⟨hk c (List.mem_cons_of_mem _ hc) fun e=>hbn (e▸hc),Nat.lt_of_lt_of_le (lt c (mR c (List.mem_cons_of_mem _ hc))) hn⟩
 refine⟨b::(F1++(Fi'++F2)),back h' x' E' Fi' (by rw[hg']) (by rw[hg']) (by simp[live,hg']) (Nat.lt_of_lt_of_le hb hn) kk re',UQ BU ⟨List.nodup_append.2 ⟨oR.1,ow'.1,fun a ha c hc e=>hd c hc (e▸ha)⟩,fun c hc=>?_⟩,fun c hc=>List.mem_append.1 (BU.mem_iff.1 hc)⟩
 rcases List.mem_append.1 hc with q|q
 ·refine⟨(oR.2 c q).1,?_⟩
  rcases List.mem_cons.1 q with e|e
  ·subst e;rw[hg']
  ·rw[(kk c e).1];exact(oR.2 c q).2
 ·exact ow'.2 c q
theorem Elt.at_ (e:Elt α n h b o E v xs i R):At h b o E:=by
 obtain⟨A,Z,hg,hA,_⟩:=e.st
 exact Aw (es:=Cel.w α) (st:=0) e.lt (by simp[live,hg]) (by rw[hg]) hA
theorem Elt.keep (e:Elt α n h b o E v xs i R) (hk:∀ c∈R,h'.get c=h.get c) (hn:h.n≤h'.n):Elt α n h' b o E v xs i R:=by
 obtain⟨A,Z,hg,hA,back⟩:=e.st
 refine⟨Nat.lt_of_lt_of_le e.lt hn,e.mem,⟨e.own.1.mono (Nat.le_refl _) hk,fun c hc=>Nat.lt_of_lt_of_le (e.own.2 c hc) hn⟩,A,Z,by rw[hk b e.mem];exact hg,hA,fun h2 x' E' Fi' hg' hn' hk'=>back h2 x' E' Fi' hg' (Nat.le_trans hn hn') fun c hc hne=>(hk' c hc hne).trans (hk c hc)⟩
theorem Elt.kp (e:Elt α n h b o E v xs i R) (k:Kp h h' X) (hd:∀ c∈R,c ∉ X):Elt α n h' b o E v xs i R:=e.keep (fun c hc=>k.2 c (e.own.2 c hc) (hd c hc)) k.1
theorem Elt.ext (e:Elt α n h b o E v xs i R) (k:Ext h h'):Elt α n h' b o E v xs i R:=e.keep (fun c hc=>k.2 c (e.own.2 c hc)) k.1
theorem Elt.st_ {j m:Nat} {y:AV} {ys:List AV} (e:Elt α n h b o E v xs i R) (hx:y.cells? =some ys) (hn:ys.length=m) (s:SP E j ys E') (hk:∀ h2,Elt α n h2 b o E' v xs i R→Kp h h2 [b]→h2.n=h.n→(k (.tup [])).awp P h2 Q):(Prog.op (.st m (.ptr b (o+j)) y) k).awp P h Q:=by
 obtain⟨A,Z,hg,hA,back⟩:=e.st
 refine MQ hg hA hx hn s ?_
 refine hk _ ⟨by simpa using e.lt,e.mem,⟨⟨e.own.1.1,fun c hc=>⟨(e.own.1.2 c hc).1,?_⟩⟩,fun c hc=>by simpa using e.own.2 c hc⟩,A,Z,by simp,hA,fun h2 x' E2 Fi' hg' hn' hk'=>back h2 x' E2 Fi' hg' (by simpa using hn') fun c hc hne=>by rw[hk' c hc hne];simp[hne]⟩ ⟨by simp,fun c hc hX=>by have:c≠b:=fun q=>hX (q▸List.mem_singleton.2 rfl);simp[this]⟩ (by simp)
 by_cases q:c=b
 ·subst q;simp
 ·simp only[oJ,q,if_false];exact(e.own.1.2 c hc).2
theorem Elt.st0 {m:Nat} {y:AV} {ys:List AV} (e:Elt α n h b o E v xs i R) (hx:y.cells? =some ys) (hn:ys.length=m) (s:SP E 0 ys E') (hk:∀ h2,Elt α n h2 b o E' v xs i R→Kp h h2 [b]→h2.n=h.n→(k (.tup [])).awp P h2 Q):(Prog.op (.st m (.ptr b o) y) k).awp P h Q:=e.st_ (j:=0) hx hn s hk
theorem Elt.done (e:Elt α n h b o E v xs i R) {x':α} {Fi':List Nat} (re:Cel.rep h x' E Fi') (ow:Own n h Fi') (hd:∀ c∈Fi',c ∉ R):∃ F',ah h v (xs.set i x') F'∧Own n h F'∧∀ c∈F',c∈R∨c∈Fi':=by
 obtain⟨A,Z,hg,hA,back⟩:=e.st
 exact back h x' E Fi' hg (Nat.le_refl _) (fun _ _ _=>rfl) re ow hd
end
end Go.Ab
end
section
namespace Go.Ab
open Go.RowKit
section
variable{n b:Nat} {h h':AH} {L:List (List Nat)}
theorem fu {c:Nat}:c∈L.flatten↔∃ (i:Nat) (G:List Nat),L[i]? =some G∧c∈G:=by
 rw[List.mem_flatten]
 constructor
 ·rintro⟨G,hG,hc⟩
  obtain⟨i,hi⟩:=List.mem_iff_getElem?.1 hG
  exact⟨i,G,hi,hc⟩
 ·rintro⟨i,G,hi,hc⟩;exact⟨G,List.mem_of_getElem? hi,hc⟩
theorem iE.j3 (s:iE n h b L) {i:Nat} {F f:List Nat} (hF:L[i]? =some F) (k:Kp h h' (b::F)) (o:bU n h' f) (hb:b ∉ f) (fr:∀ c∈f,c∈F∨c ∉ L.flatten):iE n h' b (L.set i f):=by
 have dj:∀ (j:Nat) (G:List Nat),j≠i→L[j]? =some G→∀ c∈f,c ∉ G:=fun j G hj hG c hc hc'=>by
  rcases fr c hc with h1|h1
  ·exact s.dis i j F G (fun e=>hj e.symm) hF hG c h1 hc'
  ·exact h1 (fu.2 ⟨j,G,hG,hc'⟩)
 refine⟨fun j G hG=>?_,fun j l G H hjl hG hH=>?_⟩
 ·rcases jI hG with⟨_,rfl⟩|⟨hj,hG⟩
  ·exact⟨o,hb⟩
  ·have:=s.own j G hG
   refine⟨bX k this.1 fun c hc hX=>?_,this.2⟩
   rcases List.mem_cons.1 hX with e|e
   ·subst e;exact this.2 hc
   ·exact s.dis j i G F hj hG hF c hc e
 ·rcases jI hG with⟨a1,a2⟩|⟨hj,hG2⟩<;>rcases jI hH with⟨b1,b2⟩|⟨hl,hH2⟩
  ·exact absurd (a1.trans b1.symm) hjl
  ·rw[a2];exact dj l H hl hH2
  ·rw[b2];exact fun c hc hc'=>dj j G hj hG2 c hc' hc
  ·exact s.dis j l G H hjl hG2 hH2
theorem iE.of:∀ {L:List (List Nat)},bU n h L.flatten→b ∉ L.flatten→iE n h b L
 |[],_,_=>⟨by simp,by simp⟩
 |G::L,o,hb=>by
  rw[List.flatten_cons] at o hb
  have r:=iE.of (L:=L) ⟨dI o.1,fun c hc=>o.2 c (List.mem_append_right _ hc)⟩ fun hc=>hb (List.mem_append_right _ hc)
  have d:=vH o.1
  refine⟨fun i H hH=>?_,fun i j H K hij hH hK=>?_⟩
  ·cases i with
   |zero=>cases hH;exact⟨⟨fB o.1,fun c hc=>o.2 c (List.mem_append_left _ hc)⟩,fun hc=>hb (List.mem_append_left _ hc)⟩
   |succ i=>exact r.own i H hH
  ·cases i with
   |zero=>
    cases hH
    cases j with
    |zero=>exact absurd rfl hij
    |succ j=>exact fun c hc hK'=>d c hc (fu.2 ⟨j,K,hK,hK'⟩)
   |succ i=>
    cases j with
    |zero=>cases hK;exact fun c hc hK'=>d c hK' (fu.2 ⟨i,H,hH,hc⟩)
    |succ j=>exact r.dis i j H K (fun e=>hij (by rw[e])) hH hK
theorem iE.flat:∀ {L:List (List Nat)},iE n h b L→bU n h L.flatten
 |[],_=>WU
 |G::L,s=>by
  rw[List.flatten_cons]
  refine iI (s.own 0 G rfl).1 (iE.flat (L:=L) ⟨fun i H hH=>s.own (i+1) H hH,fun i j H K hij hH hK=>s.dis (i+1) (j+1) H K (fun e=>hij (by omega)) hH hK⟩) fun c hc hm=>?_
  obtain⟨j,H,hH,hc'⟩:=fu.1 hm
  exact s.dis 0 (j+1) G H (by omega) rfl hH c hc hc'
end
def WF.a (F:WF):List Nat:=F.l.flatten
section
variable{n b:Nat} {h h':AH} {x:Wld} {V:WV} {F:WF}
theorem PW.own (w:PW n h b x V F):bU n h F.a:=w.sep.flat
theorem WF.in1 (F:WF):∀ c∈F.f1,c∈F.a:=fun c hc=>fu.2 ⟨1,_,rfl,hc⟩
theorem WF.set1 {f:List Nat} {c:Nat} (hc:c∈({F with f1:=f}:WF).a):c∈f∨c∈F.a:=by
 obtain⟨j,G,hG,hm⟩:=fu.1 hc
 have e:({F with f1:=f}:WF).l=F.l.set 1 f:=rfl
 rw[e] at hG
 rcases jI hG with⟨_,rfl⟩|⟨_,hG⟩
 ·exact .inl hm
 ·exact .inr (fu.2 ⟨j,G,hG,hm⟩)
theorem WF.set2 {f:List Nat} {c:Nat} (hc:c∈({F with f2:=f}:WF).a):c∈f∨c∈F.a:=by
 obtain⟨j,G,hG,hm⟩:=fu.1 hc
 have e:({F with f2:=f}:WF).l=F.l.set 2 f:=rfl
 rw[e] at hG
 rcases jI hG with⟨_,rfl⟩|⟨_,hG⟩
 ·exact .inl hm
 ·exact .inr (fu.2 ⟨j,G,hG,hm⟩)
theorem WF.Nj {f:List Nat} {c:Nat} (hc:c∈({F with f3:=f}:WF).a):c∈f∨c∈F.a:=by
 obtain⟨j,G,hG,hm⟩:=fu.1 hc
 have e:({F with f3:=f}:WF).l=F.l.set 3 f:=rfl
 rw[e] at hG
 rcases jI hG with⟨_,rfl⟩|⟨_,hG⟩
 ·exact .inl hm
 ·exact .inr (fu.2 ⟨j,G,hG,hm⟩)
theorem WF.Yg {f:List Nat} {c:Nat} (hc:c∈({F with f4:=f}:WF).a):c∈f∨c∈F.a:=by
 obtain⟨j,G,hG,hm⟩:=fu.1 hc
 have e:({F with f4:=f}:WF).l=F.l.set 4 f:=rfl
 rw[e] at hG
 rcases jI hG with⟨_,rfl⟩|⟨_,hG⟩
 ·exact .inl hm
 ·exact .inr (fu.2 ⟨j,G,hG,hm⟩)
theorem WF.akA {f:List Nat} {c:Nat} (hc:c∈({F with f5:=f}:WF).a):c∈f∨c∈F.a:=by
 obtain⟨j,G,hG,hm⟩:=fu.1 hc
 have e:({F with f5:=f}:WF).l=F.l.set 5 f:=rfl
 rw[e] at hG
 rcases jI hG with⟨_,rfl⟩|⟨_,hG⟩
 ·exact .inl hm
 ·exact .inr (fu.2 ⟨j,G,hG,hm⟩)
theorem WF.in6 (F:WF):∀ c∈F.f6,c∈F.a:=fun c hc=>fu.2 ⟨6,_,rfl,hc⟩
theorem WF.Yf {f:List Nat} {c:Nat} (hc:c∈({F with f6:=f}:WF).a):c∈f∨c∈F.a:=by
 obtain⟨j,G,hG,hm⟩:=fu.1 hc
 have e:({F with f6:=f}:WF).l=F.l.set 6 f:=rfl
 rw[e] at hG
 rcases jI hG with⟨_,rfl⟩|⟨_,hG⟩
 ·exact .inl hm
 ·exact .inr (fu.2 ⟨j,G,hG,hm⟩)
theorem WF.in7 (F:WF):∀ c∈F.f7,c∈F.a:=fun c hc=>fu.2 ⟨7,_,rfl,hc⟩
theorem WF.akz {f:List Nat} {c:Nat} (hc:c∈({F with f7:=f}:WF).a):c∈f∨c∈F.a:=by
 obtain⟨j,G,hG,hm⟩:=fu.1 hc
 have e:({F with f7:=f}:WF).l=F.l.set 7 f:=rfl
 rw[e] at hG
 rcases jI hG with⟨_,rfl⟩|⟨_,hG⟩
 ·exact .inl hm
 ·exact .inr (fu.2 ⟨j,G,hG,hm⟩)
theorem WF.in8 (F:WF):∀ c∈F.f8,c∈F.a:=fun c hc=>fu.2 ⟨8,_,rfl,hc⟩
theorem WF.in9 (F:WF):∀ c∈F.f9,c∈F.a:=fun c hc=>fu.2 ⟨9,_,rfl,hc⟩
theorem WF.aky {f:List Nat} {c:Nat} (hc:c∈({F with f9:=f}:WF).a):c∈f∨c∈F.a:=by
 obtain⟨j,G,hG,hm⟩:=fu.1 hc
 have e:({F with f9:=f}:WF).l=F.l.set 9 f:=rfl
 rw[e] at hG
 rcases jI hG with⟨_,rfl⟩|⟨_,hG⟩
 ·exact .inl hm
 ·exact .inr (fu.2 ⟨j,G,hG,hm⟩)
theorem WF.tZ (F:WF):∀ c∈F.f10,c∈F.a:=fun c hc=>fu.2 ⟨10,_,rfl,hc⟩
theorem WF.Xx {f:List Nat} {c:Nat} (hc:c∈({F with f10:=f}:WF).a):c∈f∨c∈F.a:=by
 obtain⟨j,G,hG,hm⟩:=fu.1 hc
 have e:({F with f10:=f}:WF).l=F.l.set 10 f:=rfl
 rw[e] at hG
 rcases jI hG with⟨_,rfl⟩|⟨_,hG⟩
 ·exact .inl hm
 ·exact .inr (fu.2 ⟨j,G,hG,hm⟩)
theorem PW.of {cs:List AV} {H:List Nat} (r:Cel.rep h x cs H) (o:Own n h H) (bk:Bk h b cs 0) (nb:n≤b) (hb:b ∉ H):∃ V F,cs=x.cv V∧F.a=H∧PW n h b x V F:=by
 have lt:=Cel.lt r
 obtain⟨v0,v1,v2,v3,v4,v5,v6,v7,v8,v9,v10,F0,F1,F2,F3,F4,F5,F6,F7,F8,F9,F10,rfl,rfl,r0,r1,r2,r3,r4,r5,r6,r7,r8,r9,r10⟩:=r
 have e:(WF.mk F0 F1 F2 F3 F4 F5 F6 F7 F8 F9 F10).a=F0++(F1++(F2++(F3++(F4++(F5++(F6++(F7++(F8++(F9++(F10)))))))))):=by simp[WF.a,WF.l]
 refine⟨⟨v0,v1,v2,v3,v4,v5,v6,v7,v8,v9,v10⟩,⟨F0,F1,F2,F3,F4,F5,F6,F7,F8,F9,F10⟩,rfl,e,bk,nb,iE.of ?_ ?_,r0,r1,r2,r3,r4,r5,r6,r7,r8,r9,r10⟩
 ·show bU n h (WF.mk F0 F1 F2 F3 F4 F5 F6 F7 F8 F9 F10).a
  rw[e];exact⟨o,lt⟩
 ·show b ∉ (WF.mk F0 F1 F2 F3 F4 F5 F6 F7 F8 F9 F10).a
  rw[e];exact hb
theorem PW.rep (w:PW n h b x V F):Cel.rep h x (x.cv V) F.a∧Own n h F.a:=
 ⟨⟨V.v0,V.v1,V.v2,V.v3,V.v4,V.v5,V.v6,V.v7,V.v8,V.v9,V.v10,F.f0,F.f1,F.f2,F.f3,F.f4,F.f5,F.f6,F.f7,F.f8,F.f9,F.f10,rfl,by simp[WF.a,WF.l],w.r0,w.r1,w.r2,w.r3,w.r4,w.r5,w.r6,w.r7,w.r8,w.r9,w.r10⟩,w.own.1⟩
structure Mv (m:Nat) (h:AH) (b:Nat) (F:WF) (h':AH) (F':WF):Prop where
 le:h.n≤h'.n
 get:∀ c,c < m→c≠b→c ∉ F.a→h'.get c=h.get c
 fr:∀ c∈F'.a,c∈F.a∨m≤c
theorem Mv.refl {m:Nat}:Mv m h b F h F:=⟨Nat.le_refl _,fun _ _ _ _=>rfl,fun c hc=>.inl hc⟩
theorem Mv.kp {F':WF} (k:Mv h.n h b F h' F'):Kp h h' (b::F.a):=⟨k.le,fun c hc hX=>k.get c hc (fun e=>hX (e▸List.mem_cons_self)) fun hm=>hX (List.mem_cons_of_mem _ hm)⟩
theorem Mv.of {m:Nat} {F':WF} (k:Kp h h' (b::F.a)) (hm:m≤h.n) (fr:∀ c∈F'.a,c∈F.a∨m≤c):Mv m h b F h' F':=
 ⟨k.1,fun c hc hb hF=>k.2 c (by omega) fun hX=>by
  rcases List.mem_cons.1 hX with e|e
  ·exact hb e
  ·exact hF e,fr⟩
theorem Mv.ofX {m:Nat} {X:List Nat} {F':WF} (k:Kp h h' X) (hX:∀ c∈X,c=b∨c∈F.a∨m≤c) (hm:m≤h.n) (fr:∀ c∈F'.a,c∈F.a∨m≤c):Mv m h b F h' F':=
 ⟨k.1,fun c hc hb hF=>k.2 c (by omega) fun hx=>by
  rcases hX c hx with e|e|e
  ·exact hb e
  ·exact hF e
  ·omega,fr⟩
theorem Mv.trans {m:Nat} {g:AH} {G F':WF} (k:Mv m g b G h F) (k':Mv m h b F h' F'):Mv m g b G h' F':=
 ⟨Nat.le_trans k.le k'.le,fun c hc hb hG=>(k'.get c hc hb fun hm=>by
  rcases k.fr c hm with q|q
  ·exact hG q
  ·omega).trans (k.get c hc hb hG),fun c hc=>by
  rcases k'.fr c hc with q|q
  ·exact k.fr c q
  ·exact .inr q⟩
theorem Mv.ext {m:Nat} {g:AH} {G:WF} (k:Mv m g b G h F) (hm:m≤h.n) (e:Ext h h'):Mv m g b G h' F:=
 ⟨Nat.le_trans k.le e.1,fun c hc hb hG=>(e.2 c (by omega)).trans (k.get c hc hb hG),k.fr⟩
theorem Mv.low {m:Nat} {F':WF} (k:Mv h.n h b F h' F') (hm:m≤h.n):Mv m h b F h' F':=⟨k.le,fun c hc=>k.get c (by omega),fun c hc=>(k.fr c hc).imp id fun q=>by omega⟩
theorem PW.XA (w:PW n h b x V F) {x':Wld} {v:AV} {f:List Nat} (bk:Bk h' b (x'.cv {V with v1:=v}) 0) (k:Kp h h' (b::F.f1)) (r:ah h' v x'.st f) (o:Own n h' f) (hb:b ∉ f) (fr:∀ c∈f,c∈F.f1∨c ∉ F.a) (e0:x'.c.rule.l=x.c.rule.l:=by rfl) (e2:x'.cache=x.cache:=by rfl) (e3:x'.w.near=x.w.near:=by rfl) (e4:x'.w.far=x.w.far:=by rfl) (e5:x'.w.rest=x.w.rest:=by rfl) (e6:x'.due=x.due:=by rfl) (e7:x'.queue=x.queue:=by rfl) (e8:x'.out=x.out:=by rfl) (e9:x'.tasks=x.tasks:=by rfl) (e10:x'.aF=x.aF:=by rfl):PW n h' b x' {V with v1:=v} {F with f1:=f}:=
 have dj:∀ (j:Nat) (G:List Nat),j≠1→F.l[j]? =some G→∀ c∈G,c ∉ b::F.f1:=fun j G hj hG c hc hX=>by
  rcases List.mem_cons.1 hX with e|e
  ·subst e;exact(w.sep.own j G hG).2 hc
  ·exact w.sep.dis j 1 G _ hj hG rfl c hc e
 ⟨bk,w.nb,w.sep.j3 (i:=1) rfl k ⟨o,r.lt⟩ hb fr,by rw[e0];exact aK k w.r0 (dj 0 _ (by decide) rfl),r,by rw[e2];exact aK k w.r2 (dj 2 _ (by decide) rfl),by rw[e3];exact aK k w.r3 (dj 3 _ (by decide) rfl),by rw[e4];exact aK k w.r4 (dj 4 _ (by decide) rfl),by rw[e5];exact aK k w.r5 (dj 5 _ (by decide) rfl),by rw[e6];exact aK k w.r6 (dj 6 _ (by decide) rfl),by rw[e7];exact aK k w.r7 (dj 7 _ (by decide) rfl),by rw[e8];exact aK k w.r8 (dj 8 _ (by decide) rfl),by rw[e9];exact aK k w.r9 (dj 9 _ (by decide) rfl),by rw[e10];exact aK k w.r10 (dj 10 _ (by decide) rfl)⟩
theorem PW.ajR (w:PW n h b x V F) {x':Wld} {v:AV} {f:List Nat} (bk:Bk h' b (x'.cv {V with v2:=v}) 0) (k:Kp h h' (b::F.f2)) (r:ah h' v x'.cache f) (o:Own n h' f) (hb:b ∉ f) (fr:∀ c∈f,c∈F.f2∨c ∉ F.a) (e0:x'.c.rule.l=x.c.rule.l:=by rfl) (e1:x'.st=x.st:=by rfl) (e3:x'.w.near=x.w.near:=by rfl) (e4:x'.w.far=x.w.far:=by rfl) (e5:x'.w.rest=x.w.rest:=by rfl) (e6:x'.due=x.due:=by rfl) (e7:x'.queue=x.queue:=by rfl) (e8:x'.out=x.out:=by rfl) (e9:x'.tasks=x.tasks:=by rfl) (e10:x'.aF=x.aF:=by rfl):PW n h' b x' {V with v2:=v} {F with f2:=f}:=
 have dj:∀ (j:Nat) (G:List Nat),j≠2→F.l[j]? =some G→∀ c∈G,c ∉ b::F.f2:=fun j G hj hG c hc hX=>by
  rcases List.mem_cons.1 hX with e|e
  ·subst e;exact(w.sep.own j G hG).2 hc
  ·exact w.sep.dis j 2 G _ hj hG rfl c hc e
 ⟨bk,w.nb,w.sep.j3 (i:=2) rfl k ⟨o,r.lt⟩ hb fr,by rw[e0];exact aK k w.r0 (dj 0 _ (by decide) rfl),by rw[e1];exact aK k w.r1 (dj 1 _ (by decide) rfl),r,by rw[e3];exact aK k w.r3 (dj 3 _ (by decide) rfl),by rw[e4];exact aK k w.r4 (dj 4 _ (by decide) rfl),by rw[e5];exact aK k w.r5 (dj 5 _ (by decide) rfl),by rw[e6];exact aK k w.r6 (dj 6 _ (by decide) rfl),by rw[e7];exact aK k w.r7 (dj 7 _ (by decide) rfl),by rw[e8];exact aK k w.r8 (dj 8 _ (by decide) rfl),by rw[e9];exact aK k w.r9 (dj 9 _ (by decide) rfl),by rw[e10];exact aK k w.r10 (dj 10 _ (by decide) rfl)⟩
theorem PW.Xz (w:PW n h b x V F) {x':Wld} {v:AV} {f:List Nat} (bk:Bk h' b (x'.cv {V with v6:=v}) 0) (k:Kp h h' (b::F.f6)) (r:ah h' v x'.due f) (o:Own n h' f) (hb:b ∉ f) (fr:∀ c∈f,c∈F.f6∨c ∉ F.a) (e0:x'.c.rule.l=x.c.rule.l:=by rfl) (e1:x'.st=x.st:=by rfl) (e2:x'.cache=x.cache:=by rfl) (e3:x'.w.near=x.w.near:=by rfl) (e4:x'.w.far=x.w.far:=by rfl) (e5:x'.w.rest=x.w.rest:=by rfl) (e7:x'.queue=x.queue:=by rfl) (e8:x'.out=x.out:=by rfl) (e9:x'.tasks=x.tasks:=by rfl) (e10:x'.aF=x.aF:=by rfl):PW n h' b x' {V with v6:=v} {F with f6:=f}:=
 have dj:∀ (j:Nat) (G:List Nat),j≠6→F.l[j]? =some G→∀ c∈G,c ∉ b::F.f6:=fun j G hj hG c hc hX=>by
  rcases List.mem_cons.1 hX with e|e
  ·subst e;exact(w.sep.own j G hG).2 hc
  ·exact w.sep.dis j 6 G _ hj hG rfl c hc e
 ⟨bk,w.nb,w.sep.j3 (i:=6) rfl k ⟨o,r.lt⟩ hb fr,by rw[e0];exact aK k w.r0 (dj 0 _ (by decide) rfl),by rw[e1];exact aK k w.r1 (dj 1 _ (by decide) rfl),by rw[e2];exact aK k w.r2 (dj 2 _ (by decide) rfl),by rw[e3];exact aK k w.r3 (dj 3 _ (by decide) rfl),by rw[e4];exact aK k w.r4 (dj 4 _ (by decide) rfl),by rw[e5];exact aK k w.r5 (dj 5 _ (by decide) rfl),r,by rw[e7];exact aK k w.r7 (dj 7 _ (by decide) rfl),by rw[e8];exact aK k w.r8 (dj 8 _ (by decide) rfl),by rw[e9];exact aK k w.r9 (dj 9 _ (by decide) rfl),by rw[e10];exact aK k w.r10 (dj 10 _ (by decide) rfl)⟩
theorem PW.ajQ (w:PW n h b x V F) {x':Wld} {v:AV} {f:List Nat} (bk:Bk h' b (x'.cv {V with v7:=v}) 0) (k:Kp h h' (b::F.f7)) (r:ah h' v x'.queue f) (o:Own n h' f) (hb:b ∉ f) (fr:∀ c∈f,c∈F.f7∨c ∉ F.a) (e0:x'.c.rule.l=x.c.rule.l:=by rfl) (e1:x'.st=x.st:=by rfl) (e2:x'.cache=x.cache:=by rfl) (e3:x'.w.near=x.w.near:=by rfl) (e4:x'.w.far=x.w.far:=by rfl) (e5:x'.w.rest=x.w.rest:=by rfl) (e6:x'.due=x.due:=by rfl) (e8:x'.out=x.out:=by rfl) (e9:x'.tasks=x.tasks:=by rfl) (e10:x'.aF=x.aF:=by rfl):PW n h' b x' {V with v7:=v} {F with f7:=f}:=
 have dj:∀ (j:Nat) (G:List Nat),j≠7→F.l[j]? =some G→∀ c∈G,c ∉ b::F.f7:=fun j G hj hG c hc hX=>by
  rcases List.mem_cons.1 hX with e|e
  ·subst e;exact(w.sep.own j G hG).2 hc
  ·exact w.sep.dis j 7 G _ hj hG rfl c hc e
 ⟨bk,w.nb,w.sep.j3 (i:=7) rfl k ⟨o,r.lt⟩ hb fr,by rw[e0];exact aK k w.r0 (dj 0 _ (by decide) rfl),by rw[e1];exact aK k w.r1 (dj 1 _ (by decide) rfl),by rw[e2];exact aK k w.r2 (dj 2 _ (by decide) rfl),by rw[e3];exact aK k w.r3 (dj 3 _ (by decide) rfl),by rw[e4];exact aK k w.r4 (dj 4 _ (by decide) rfl),by rw[e5];exact aK k w.r5 (dj 5 _ (by decide) rfl),by rw[e6];exact aK k w.r6 (dj 6 _ (by decide) rfl),r,by rw[e8];exact aK k w.r8 (dj 8 _ (by decide) rfl),by rw[e9];exact aK k w.r9 (dj 9 _ (by decide) rfl),by rw[e10];exact aK k w.r10 (dj 10 _ (by decide) rfl)⟩
theorem PW.ajP (w:PW n h b x V F) {x':Wld} {v:AV} {f:List Nat} (bk:Bk h' b (x'.cv {V with v9:=v}) 0) (k:Kp h h' (b::F.f9)) (r:ah h' v x'.tasks f) (o:Own n h' f) (hb:b ∉ f) (fr:∀ c∈f,c∈F.f9∨c ∉ F.a) (e0:x'.c.rule.l=x.c.rule.l:=by rfl) (e1:x'.st=x.st:=by rfl) (e2:x'.cache=x.cache:=by rfl) (e3:x'.w.near=x.w.near:=by rfl) (e4:x'.w.far=x.w.far:=by rfl) (e5:x'.w.rest=x.w.rest:=by rfl) (e6:x'.due=x.due:=by rfl) (e7:x'.queue=x.queue:=by rfl) (e8:x'.out=x.out:=by rfl) (e10:x'.aF=x.aF:=by rfl):PW n h' b x' {V with v9:=v} {F with f9:=f}:=
 have dj:∀ (j:Nat) (G:List Nat),j≠9→F.l[j]? =some G→∀ c∈G,c ∉ b::F.f9:=fun j G hj hG c hc hX=>by
  rcases List.mem_cons.1 hX with e|e
  ·subst e;exact(w.sep.own j G hG).2 hc
  ·exact w.sep.dis j 9 G _ hj hG rfl c hc e
 ⟨bk,w.nb,w.sep.j3 (i:=9) rfl k ⟨o,r.lt⟩ hb fr,by rw[e0];exact aK k w.r0 (dj 0 _ (by decide) rfl),by rw[e1];exact aK k w.r1 (dj 1 _ (by decide) rfl),by rw[e2];exact aK k w.r2 (dj 2 _ (by decide) rfl),by rw[e3];exact aK k w.r3 (dj 3 _ (by decide) rfl),by rw[e4];exact aK k w.r4 (dj 4 _ (by decide) rfl),by rw[e5];exact aK k w.r5 (dj 5 _ (by decide) rfl),by rw[e6];exact aK k w.r6 (dj 6 _ (by decide) rfl),by rw[e7];exact aK k w.r7 (dj 7 _ (by decide) rfl),by rw[e8];exact aK k w.r8 (dj 8 _ (by decide) rfl),r,by rw[e10];exact aK k w.r10 (dj 10 _ (by decide) rfl)⟩
theorem PW.WQ (w:PW n h b x V F) {x':Wld} {v:AV} {f:List Nat} (bk:Bk h' b (x'.cv {V with v10:=v}) 0) (k:Kp h h' (b::F.f10)) (r:ah h' v x'.aF f) (o:Own n h' f) (hb:b ∉ f) (fr:∀ c∈f,c∈F.f10∨c ∉ F.a) (e0:x'.c.rule.l=x.c.rule.l:=by rfl) (e1:x'.st=x.st:=by rfl) (e2:x'.cache=x.cache:=by rfl) (e3:x'.w.near=x.w.near:=by rfl) (e4:x'.w.far=x.w.far:=by rfl) (e5:x'.w.rest=x.w.rest:=by rfl) (e6:x'.due=x.due:=by rfl) (e7:x'.queue=x.queue:=by rfl) (e8:x'.out=x.out:=by rfl) (e9:x'.tasks=x.tasks:=by rfl):PW n h' b x' {V with v10:=v} {F with f10:=f}:=
 have dj:∀ (j:Nat) (G:List Nat),j≠10→F.l[j]? =some G→∀ c∈G,c ∉ b::F.f10:=fun j G hj hG c hc hX=>by
  rcases List.mem_cons.1 hX with e|e
  ·subst e;exact(w.sep.own j G hG).2 hc
  ·exact w.sep.dis j 10 G _ hj hG rfl c hc e
 ⟨bk,w.nb,w.sep.j3 (i:=10) rfl k ⟨o,r.lt⟩ hb fr,by rw[e0];exact aK k w.r0 (dj 0 _ (by decide) rfl),by rw[e1];exact aK k w.r1 (dj 1 _ (by decide) rfl),by rw[e2];exact aK k w.r2 (dj 2 _ (by decide) rfl),by rw[e3];exact aK k w.r3 (dj 3 _ (by decide) rfl),by rw[e4];exact aK k w.r4 (dj 4 _ (by decide) rfl),by rw[e5];exact aK k w.r5 (dj 5 _ (by decide) rfl),by rw[e6];exact aK k w.r6 (dj 6 _ (by decide) rfl),by rw[e7];exact aK k w.r7 (dj 7 _ (by decide) rfl),by rw[e8];exact aK k w.r8 (dj 8 _ (by decide) rfl),by rw[e9];exact aK k w.r9 (dj 9 _ (by decide) rfl),r⟩
theorem PW.gX (w:PW n h b x V F) {x':Wld} {v3 v4 v5:AV} {f3 f4 f5:List Nat} (bk:Bk h' b (x'.cv {V with v3:=v3,v4:=v4,v5:=v5}) 0) (k:Kp h h' [b]) (r3:ah h' v3 x'.w.near f3) (r4:ah h' v4 x'.w.far f4) (r5:ah h' v5 x'.w.rest f5) (o:Own n h' (f3++(f4++f5))) (hb:b ∉ f3++(f4++f5)) (fr:∀ c∈f3++(f4++f5),c ∉ F.a) (e0:x'.c.rule.l=x.c.rule.l:=by rfl) (e1:x'.st=x.st:=by rfl) (e2:x'.cache=x.cache:=by rfl) (e6:x'.due=x.due:=by rfl) (e7:x'.queue=x.queue:=by rfl) (e8:x'.out=x.out:=by rfl) (e9:x'.tasks=x.tasks:=by rfl) (e10:x'.aF=x.aF:=by rfl):PW n h' b x' {V with v3:=v3,v4:=v4,v5:=v5} {F with f3:=f3,f4:=f4,f5:=f5}:=by
 have o3:=fB o
 have o4:=fB (dI o)
 have o5:=dI (dI o)
 have d3:=vH o
 have d4:=vH (dI o)
 have m3:∀ c∈f3,c∈f3++(f4++f5):=fun c hc=>List.mem_append_left _ hc
 have m4:∀ c∈f4,c∈f3++(f4++f5):=fun c hc=>List.mem_append_right _ (List.mem_append_left _ hc)
 have m5:∀ c∈f5,c∈f3++(f4++f5):=fun c hc=>List.mem_append_right _ (List.mem_append_right _ hc)
 have s3:=w.sep.j3 (i:=3) (h':=h') rfl (k.mono fun c hc=>by rw[List.mem_singleton.1 hc];exact List.mem_cons_self) ⟨o3,r3.lt⟩ (fun hm=>hb (m3 _ hm)) fun c hc=>.inr (fr c (m3 c hc))
 have s4:=s3.j3 (i:=4) (h':=h') rfl (Kp.refl _ _) ⟨o4,r4.lt⟩ (fun hm=>hb (m4 _ hm)) fun c hc=>.inr fun hm=>by
  rcases WF.Nj (F:=F) (f:=f3) hm with q|q
  ·exact d3 c q (List.mem_append_left _ hc)
  ·exact fr c (m4 c hc) q
 have s5:=s4.j3 (i:=5) (h':=h') rfl (Kp.refl _ _) ⟨o5,r5.lt⟩ (fun hm=>hb (m5 _ hm)) fun c hc=>.inr fun hm=>by
  rcases WF.Yg (F:={F with f3:=f3}) (f:=f4) hm with q|q
  ·exact d4 c q hc
  rcases WF.Nj (F:=F) (f:=f3) q with q|q
  ·exact d3 c q (List.mem_append_right _ hc)
  ·exact fr c (m5 c hc) q
 exact⟨bk,w.nb,s5,by rw[e0];exact aK k w.r0 fun c hc hX=>w.n0 (List.mem_singleton.1 hX▸hc),by rw[e1];exact aK k w.r1 fun c hc hX=>w.n1 (List.mem_singleton.1 hX▸hc),by rw[e2];exact aK k w.r2 fun c hc hX=>w.n2 (List.mem_singleton.1 hX▸hc),r3,r4,r5,by rw[e6];exact aK k w.r6 fun c hc hX=>w.n6 (List.mem_singleton.1 hX▸hc),by rw[e7];exact aK k w.r7 fun c hc hX=>w.n7 (List.mem_singleton.1 hX▸hc),by rw[e8];exact aK k w.r8 fun c hc hX=>w.n8 (List.mem_singleton.1 hX▸hc),by rw[e9];exact aK k w.r9 fun c hc hX=>w.n9 (List.mem_singleton.1 hX▸hc),by rw[e10];exact aK k w.r10 fun c hc hX=>w.n10 (List.mem_singleton.1 hX▸hc)⟩
end
section
variable{n b i:Nat} {h h':AH} {x:Wld} {V:WV} {F:WF} {P:Program} {Q:Nat→List AV→AH→Prop}
theorem PW.ak9 (w:PW n h b x V F) {y':aR} {E':List AV} {G R:List Nat} {bb o:Nat} (el:Elt aR n h' bb o E' V.v1 x.st i R) (re:Cel.rep h' y' E' G) (ow:Own n h' G) (hd:∀ c∈G,c ∉ R) (hR:∀ c∈R,c∈F.f1) (hG:∀ c∈G,c≠b∧(c∈F.f1∨c ∉ F.a)) (k:Kp h h' F.f1):∃ F',PW n h' b {x with st:=x.st.set i y'} V F'∧(∀ c∈F'.a,c∈F.a∨c∈G)∧Kp h h' (b::F.a):=by
 obtain⟨f,q,o',m⟩:=el.done re ow hd
 refine⟨{F with f1:=f},w.XA (x':={x with st:=x.st.set i y'}) (v:=V.v1) (bI k w.bk w.n1) (k.mono fun c hc=>List.mem_cons_of_mem _ hc) q o' (fun hm=>?_) (fun c hc=>?_),fun c hc=>?_,k.mono fun c hc=>List.mem_cons_of_mem _ (F.in1 c hc)⟩
 ·rcases m b hm with q1|q1
  ·exact w.n1 (hR b q1)
  ·exact(hG b q1).1 rfl
 ·rcases m c hc with q1|q1
  ·exact .inl (hR c q1)
  ·exact(hG c q1).2
 ·rcases WF.set1 hc with q1|q1
  ·exact(m c q1).imp (fun q2=>F.in1 c (hR c q2)) id
  ·exact .inl q1
theorem PW.YL (w:PW n h b x V F) {y':Task} {E':List AV} {G R:List Nat} {bb o:Nat} (el:Elt Task n h' bb o E' V.v9 x.tasks i R) (re:Cel.rep h' y' E' G) (ow:Own n h' G) (hd:∀ c∈G,c ∉ R) (hR:∀ c∈R,c∈F.f9) (hG:∀ c∈G,c≠b∧(c∈F.f9∨c ∉ F.a)) (k:Kp h h' F.f9):∃ F',PW n h' b {x with tasks:=x.tasks.set i y'} V F'∧(∀ c∈F'.a,c∈F.a∨c∈G)∧Kp h h' (b::F.a):=by
 obtain⟨f,q,o',m⟩:=el.done re ow hd
 refine⟨{F with f9:=f},w.ajP (x':={x with tasks:=x.tasks.set i y'}) (v:=V.v9) (bI k w.bk w.n9) (k.mono fun c hc=>List.mem_cons_of_mem _ hc) q o' (fun hm=>?_) (fun c hc=>?_),fun c hc=>?_,k.mono fun c hc=>List.mem_cons_of_mem _ (F.in9 c hc)⟩
 ·rcases m b hm with q1|q1
  ·exact w.n9 (hR b q1)
  ·exact(hG b q1).1 rfl
 ·rcases m c hc with q1|q1
  ·exact .inl (hR c q1)
  ·exact(hG c q1).2
 ·rcases WF.aky hc with q1|q1
  ·exact(m c q1).imp (fun q2=>F.in9 c (hR c q2)) id
  ·exact .inl q1
theorem PW.M4 (w:PW n h b x V F) {y':aW} {E':List AV} {G R:List Nat} {bb o:Nat} (el:Elt aW n h' bb o E' V.v10 x.aF i R) (re:Cel.rep h' y' E' G) (ow:Own n h' G) (hd:∀ c∈G,c ∉ R) (hR:∀ c∈R,c∈F.f10) (hG:∀ c∈G,c≠b∧(c∈F.f10∨c ∉ F.a)) (k:Kp h h' F.f10):∃ F',PW n h' b {x with aF:=x.aF.set i y'} V F'∧(∀ c∈F'.a,c∈F.a∨c∈G)∧Kp h h' (b::F.a):=by
 obtain⟨f,q,o',m⟩:=el.done re ow hd
 refine⟨{F with f10:=f},w.WQ (x':={x with aF:=x.aF.set i y'}) (v:=V.v10) (bI k w.bk w.n10) (k.mono fun c hc=>List.mem_cons_of_mem _ hc) q o' (fun hm=>?_) (fun c hc=>?_),fun c hc=>?_,k.mono fun c hc=>List.mem_cons_of_mem _ (F.tZ c hc)⟩
 ·rcases m b hm with q1|q1
  ·exact w.n10 (hR b q1)
  ·exact(hG b q1).1 rfl
 ·rcases m c hc with q1|q1
  ·exact .inl (hR c q1)
  ·exact(hG c q1).2
 ·rcases WF.Xx hc with q1|q1
  ·exact(m c q1).imp (fun q2=>F.tZ c (hR c q2)) id
  ·exact .inl q1
theorem PW.NM (w:PW n h b x V F) {a:Itm} {cs:List AV} {G:List Nat} {bytes:Nat} (ra:Cel.rep h a cs G) (oa:Own n h G) (hG:∀ c∈G,c≠b∧c ∉ F.a) (hn:n≤h.n) (hs:(x.queue.length+1) * bytes≤70368744177664) (hs2:x.queue.length+1 < 281474976710656) {k:AV→Prog}
  (hk:∀ v h1 f,Kp h h1 F.f7→Bk h1 b (x.cv V) 0→ah h1 v (x.queue++[a]) f→(∀ h2,Bk h2 b (Wld.cv {x with queue:=x.queue++[a]} {V with v7:=v}) 0→Kp h1 h2 [b]→∃ F',PW n h2 b {x with queue:=x.queue++[a]} {V with v7:=v} F'∧(∀ c∈F'.a,c∈F.a∨c∈G∨h.n≤c)∧Kp h h2 (b::F.a))→(k v).awp P h1 Q):(Prog.op (.app 7 bytes V.v7 (.sl h.n 0 1)) k).awp P (h.push ⟨cs,7,0⟩) Q:=by
 refine iC (n:=n) w.r7 ra (iK w.o7 oa (Nat.le_refl _) fun c hc hg=>(hG c hg).2 (F.in7 c hc)) hn rfl hs hs2 fun v h1 f ek k1 q1 o1 m1=>hk v h1 f k1 (bI k1 w.bk w.n7) q1 fun h2 b2 k2=>?_
 have lt:=w.own.2
 have hb1:=w.bk.1
 have hbf:b ∉ f:=fun hm=>by
  rcases m1 b hm with q|q|q
  ·exact w.n7 q
  ·exact(hG b q).1 rfl
  ·omega
 have kk:Kp h h2 (b::F.f7):=(k1.mono fun c hc=>List.mem_cons_of_mem _ hc).trans (k2.mono fun c hc=>by rw[List.mem_singleton.1 hc];exact List.mem_cons_self)
 refine⟨{F with f7:=f},w.ajQ (x':={x with queue:=x.queue++[a]}) b2 kk (aK k2 q1 fun c hc hX=>hbf (List.mem_singleton.1 hX▸hc)) (bX k2 ⟨o1,q1.lt⟩ fun c hc hX=>hbf (List.mem_singleton.1 hX▸hc)).1 hbf (fun c hc=>?_),fun c hc=>?_,kk.mono fun c hc=>?_⟩
 ·rcases m1 c hc with q|q|q
  ·exact .inl q
  ·exact .inr (hG c q).2
  ·exact .inr fun hm=>by have:=lt c hm;omega
 ·rcases WF.akz hc with q|q
  ·rcases m1 c q with q|q|q
   ·exact .inl (F.in7 c q)
   ·exact .inr (.inl q)
   ·exact .inr (.inr q)
  ·exact .inl q
 ·rcases List.mem_cons.1 hc with e|e
  ·subst e;exact List.mem_cons_self
  ·exact List.mem_cons_of_mem _ (F.in7 c e)
theorem PW.xQ (w:PW n h b x V F) {a:aW} {cs:List AV} {G:List Nat} {bytes:Nat} (ra:Cel.rep h a cs G) (oa:Own n h G) (hG:∀ c∈G,c≠b∧c ∉ F.a) (hn:n≤h.n) (hs:(x.aF.length+1) * bytes≤70368744177664) (hs2:x.aF.length+1 < 281474976710656) {k:AV→Prog}
  (hk:∀ v h1 f,Kp h h1 F.f10→Bk h1 b (x.cv V) 0→ah h1 v (x.aF++[a]) f→(∀ h2,Bk h2 b (Wld.cv {x with aF:=x.aF++[a]} {V with v10:=v}) 0→Kp h1 h2 [b]→∃ F',PW n h2 b {x with aF:=x.aF++[a]} {V with v10:=v} F'∧(∀ c∈F'.a,c∈F.a∨c∈G∨h.n≤c)∧Kp h h2 (b::F.a))→(k v).awp P h1 Q):(Prog.op (.app 20 bytes V.v10 (.sl h.n 0 1)) k).awp P (h.push ⟨cs,20,0⟩) Q:=by
 refine iC (n:=n) w.r10 ra (iK w.o10 oa (Nat.le_refl _) fun c hc hg=>(hG c hg).2 (F.tZ c hc)) hn rfl hs hs2 fun v h1 f ek k1 q1 o1 m1=>hk v h1 f k1 (bI k1 w.bk w.n10) q1 fun h2 b2 k2=>?_
 have lt:=w.own.2
 have hb1:=w.bk.1
 have hbf:b ∉ f:=fun hm=>by
  rcases m1 b hm with q|q|q
  ·exact w.n10 q
  ·exact(hG b q).1 rfl
  ·omega
 have kk:Kp h h2 (b::F.f10):=(k1.mono fun c hc=>List.mem_cons_of_mem _ hc).trans (k2.mono fun c hc=>by rw[List.mem_singleton.1 hc];exact List.mem_cons_self)
 refine⟨{F with f10:=f},w.WQ (x':={x with aF:=x.aF++[a]}) b2 kk (aK k2 q1 fun c hc hX=>hbf (List.mem_singleton.1 hX▸hc)) (bX k2 ⟨o1,q1.lt⟩ fun c hc hX=>hbf (List.mem_singleton.1 hX▸hc)).1 hbf (fun c hc=>?_),fun c hc=>?_,kk.mono fun c hc=>?_⟩
 ·rcases m1 c hc with q|q|q
  ·exact .inl q
  ·exact .inr (hG c q).2
  ·exact .inr fun hm=>by have:=lt c hm;omega
 ·rcases WF.Xx hc with q|q
  ·rcases m1 c q with q|q|q
   ·exact .inl (F.tZ c q)
   ·exact .inr (.inl q)
   ·exact .inr (.inr q)
  ·exact .inl q
 ·rcases List.mem_cons.1 hc with e|e
  ·subst e;exact List.mem_cons_self
  ·exact List.mem_cons_of_mem _ (F.tZ c e)
end
section
variable{α:Type} [Flat α] {P:Program} {h:AH} {Q:Nat→List AV→AH→Prop} {k:AV→Prog}
theorem IJ {n es bytes:Nat} {x y:AV} {xs ys:List α} {Fx Fy:List Nat} (rx:ah h x xs Fx) (ry:ah h y ys Fy) (o:Own n h Fx) (hn:n≤h.n) (hw:es=Cel.w α) (hb:(xs.length+ys.length) * bytes≤70368744177664) (hs:xs.length+ys.length < 281474976710656)
  (hk:∀ v h' F',Kp h h' Fx→ah h' v (xs++ys) F'→Own n h' F'→(∀ c∈F',c∈Fx∨h.n≤c)→(k v).awp P h' Q):(Prog.op (.app es bytes x y) k).awp P h Q:=by
 have ht:Fy.tail=[]:=by rcases ry.flat with⟨_,_,rfl⟩|⟨b,_,_,_,rfl,_⟩<;>rfl
 refine xg rx ry (by rw[ht,List.append_nil];exact o) hn hw hb hs fun v h' F' kp r' o' m=>hk v h' F' kp r' o' fun c hc=>?_
 rcases m c hc with q|q|q
 ·exact .inl q
 ·rw[ht] at q;cases q
 ·exact .inr q
end
theorem ajF {P:Program} {h:AH} {Q:Nat→List AV→AH→Prop} {p:Prog} (R:AH→Prop) (r:R h) (k:∀ h2,R h2→p.awp P h2 Q):p.awp P h Q:=k h r
def qy (n m:Nat) (h:AH) (b:Nat) (F:WF) (y:Wld) (h':AH):Prop:=∃ V' F',PW n h' b y V' F'∧Mv m h b F h' F'
end Go.Ab
end
section
namespace Go.Proofs.YtcgjihfngdhjjaaGreat
open Go Go.Ab Go.RowKit
section
variable{P:Program} {f:FuncId} {h H:AH} {x y:Wld} {cs:List AV} {F:List Nat} {Q:Nat→List AV→AH→Prop}
theorem ahR {a c:List AV} (hl:c.length=a.length):SP a 0 c c:=⟨by omega,by unfold splice;rw[hl];simp⟩
end
end Go.Proofs.YtcgjihfngdhjjaaGreat
end
