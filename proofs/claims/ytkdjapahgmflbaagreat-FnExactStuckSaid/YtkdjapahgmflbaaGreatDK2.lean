import Derived.Orders
import Derived.Test.YtkdjapahgmflbaaGreatDK1
set_option linter.unusedSimpArgs false
set_option linter.unusedVariables false
section
namespace Go.Ab
open Go.RowKit
variable{B:Nat} {w0 w w':World} {m:BM} {h:AH} {P:Program} {K:AV→AH→Prop}
theorem yw {ρ:Operand→AV} {a:Act} (hρ:∀ x,aG m (ρ x) (a.eval x)) (o:Option Operand):lQ m (o.map ρ) (o.map a.eval):=by
 cases o<;>simp[lQ,hρ]
theorem IZ {α:Type} {a:Array α} {x:α} (h:a.toList=[x]):a= #[x]:=Array.toList_inj.1 h
theorem Zy {α:Type} {a:Array α} {x y:α} (h:a.toList=[x,y]):a= #[x,y]:=Array.toList_inj.1 h
theorem Lh {o:Oper} {a:Act} {ρ:Operand→AV} (hρ:∀ x,aG m (ρ x) (a.eval x)) (s:Sim B w0 m h w) (x:Operand) (args:Array Operand) (argTypes:Array TypeId) (hmap:args.map a.eval=(args.toList.map a.eval).toArray)
  (g:(AOp.iC (ρ x) (args.toList.map ρ)).go P h K) {next:Act→World→Prop} {Q:Exit→Act→World→Prop}
  (hnext:∀ v av m' h' w',Grow h.n m h'.n m'→Sim B w0 m' h' w'→aG m' av v→K av h'→next (a.put o.dst v) w'):
  o.upon P a next Q (Sem.run P (do let d ←resolve a.eval ⟨.value x,args,argTypes⟩ o.type;invoke d.target d.args) w):=by
 have hargs:=xM hρ args.toList
 simp only[AOp.go] at g
 split at g
 ·rename_i fi caps hf
  have hfv:=hρ x
  rw[hf] at hfv
  simp only[aG] at hfv
  obtain⟨l,hl,hv⟩:=hfv
  have:(do let d ←resolve a.eval ⟨.value x,args,argTypes⟩ o.type;invoke d.target d.args:Sem Next)=callFunc fi (args.toList.map a.eval++l).toArray:=by
   simp only[resolve,hv,Deferred.ofValue,hmap]
   simp[invoke]
  rw[this]
  exact VF s (hargs.append hl) g hnext
 ·exact g.elim
theorem Nz {α β:Type} (f:α→β) (x:α): #[x].map f= #[f x]:=by simp
theorem Zg {α β:Type} (f:α→β) (x y:α): #[x,y].map f= #[f x,f y]:=by simp
theorem aju {o:Oper} {a:Act} {ρ:Operand→AV} (hρ:∀ x,aG m (ρ x) (a.eval x)) (s:Sim B w0 m h w) {c:Call} (ho:o.op= .call c) (g:(nE P ρ c).go P h K) {next:Act→World→Prop} {Q:Exit→Act→World→Prop}
  (hnext:∀ v av m' h' w',Grow h.n m h'.n m'→Sim B w0 m' h' w'→aG m' av v→K av h'→next (a.put o.dst v) w'):o.wp P a w next Q:=by
 unfold Oper.wp execOp
 rw[ho]
 obtain⟨callee,args,argTypes⟩:=c
 have hmap:args.map a.eval=(args.toList.map a.eval).toArray:=by rw[←Array.toList_map]
 cases callee with
 |invoke r n=>exact g.elim
 |value f=>
  have hargs:=xM hρ args.toList
  cases f with
  |func fi=>
   simp only[nE,AOp.go] at g
   have:(do let d ←resolve a.eval ⟨.value (.func fi),args,argTypes⟩ o.type;invoke d.target d.args:Sem Next)=callFunc fi (args.toList.map a.eval).toArray:=by
    rw[←hmap];simp[resolve,Act.eval,Deferred.ofValue,invoke]
   show o.upon P a next Q (Sem.run P (do let d ←resolve a.eval ⟨.value (.func fi),args,argTypes⟩ o.type;invoke d.target d.args) w)
   rw[this]
   exact VF s hargs g hnext
  |tmp t=>exact Lh hρ s (.tmp t) args argTypes hmap g hnext
  |const v=>exact Lh hρ s (.const v) args argTypes hmap g hnext
  |global v=>exact Lh hρ s (.global v) args argTypes hmap g hnext
 |builtin b=>
  have hb:∀ (x:Sem Value),(builtin b argTypes o.type (args.map fun| .const _=>true|_=>false) (args.map a.eval))=(do pure (.value (←x)))→Res h.n B w0 m K (x.run P w)→
    o.upon P a next Q (Sem.run P (do let d ←resolve a.eval ⟨.builtin b,args,argTypes⟩ o.type;invoke d.target d.args) w):=by
   intro x hx hr
   have:(do let d ←resolve a.eval ⟨.builtin b,args,argTypes⟩ o.type;invoke d.target d.args:Sem Next)=(do pure (.value (←x))):=by
    rw[←hx];rfl
   rw[this]
   exact upon_res hr hnext
  simp only[nE] at g
  split at g
  ·
   rename_i x t hx ht
   have ha:=IZ hx;have hat:=IZ ht
   subst ha;subst hat
   split at g
   ·rename_i e hu
    exact hb _ rfl (by rw[Nz];exact Xn s hu ⟨fun _=>⟨e,rfl⟩,fun h=>by cases h⟩ (hρ x) g)
   ·rename_i hu
    exact hb _ rfl (by rw[Nz];exact Xn s hu ⟨(fun h=>by cases h),fun _=>rfl⟩ (hρ x) g)
   ·exact g.elim
  ·
   rename_i x y t u hx ht
   have ha:=Zy hx;have hat:=Zy ht
   subst ha;subst hat
   split at g
   ·rename_i e hu
    split at g
    ·rename_i i z e' hi hz hu2
     split at g
     ·exact g.elim
     ·rename_i hby
      obtain⟨i',v,hi',hv,_,_,_,hs⟩:=oO (m:=m) hz
      rw[hi] at hi';cases hi'
      exact hb _ rfl (by rw[Zg];exact Xp s hu hi hv hs hby hu2 (.inl ⟨_,rfl⟩) (hρ x) (hρ y) g)
    ·rename_i i z hi hz hu2
     split at g
     ·exact g.elim
     ·rename_i hby
      obtain⟨i',v,hi',hv,_,_,_,hs⟩:=oO (m:=m) hz
      rw[hi] at hi';cases hi'
      exact hb _ rfl (by rw[Zg];exact Xp s hu hi hv hs hby hu2 (.inr rfl) (hρ x) (hρ y) g)
    ·exact g.elim
   ·exact g.elim
  ·
   rename_i x t hx ht
   have ha:=IZ hx;have hat:=IZ ht
   subst ha;subst hat
   split at g
   ·rename_i e hu
    split at g
    ·rename_i i z hi hz
     exact hb _ rfl (by rw[Nz];exact ak1 s hu hi hz (hρ x) g)
    ·exact g.elim
   ·exact g.elim
  ·
   have:=Xm s (xM hρ args.toList) argTypes o.type g
   rw[←hmap] at this;exact hb _ rfl this
  ·have:=Xm s (xM hρ args.toList) argTypes o.type g
   rw[←hmap] at this;exact hb _ rfl this
  ·exact g.elim
theorem WC {o:Oper} {a:Act} {ρ:Operand→AV} (hρ:∀ x,aG m (ρ x) (a.eval x)) (s:Sim B w0 m h w) (g:(bE P ρ o.op).go P h K) {next:Act→World→Prop} {Q:Exit→Act→World→Prop}
  (hnext:∀ v av m' h' w',Grow h.n m h'.n m'→Sim B w0 m' h' w'→aG m' av v→K av h'→next (a.put o.dst v) w'):o.wp P a w next Q:=by
 cases hop:o.op with
 |call c=>rw[hop] at g;exact aju hρ s hop g hnext
 |move x=>rw[hop] at g;unfold Oper.wp execOp;rw[hop];exact hnext _ _ m h w (Grow.refl _ _) s (hρ _) g
 |assign x=>rw[hop] at g;unfold Oper.wp execOp;rw[hop];exact hnext _ _ m h w (Grow.refl _ _) s (hρ _) g
 |pick c x y=>
  rw[hop] at g;unfold Oper.wp execOp;rw[hop]
  simp only[bE,AOp.go] at g
  split at g
  ·rename_i b hb
   have hc:=hρ c
   rw[hb] at hc
   simp only[aG] at hc
   simp only[hc,asBool,Sem.run_bind,Sem.run_pure,Result.andThen_ok]
   refine hnext _ _ m h w (Grow.refl _ _) s ?_ g
   cases b
   ·exact hρ y
   ·exact hρ x
  ·exact g.elim
 |alloc t=>
  rw[hop] at g;unfold Oper.wp execOp;rw[hop]
  simp only[bE] at g
  split at g
  ·rename_i cs hz;exact upon_res (ajR s hz g) hnext
  ·exact g.elim
 |box t x=>
  rw[hop] at g;unfold Oper.wp execOp;rw[hop]
  exact upon_res (ak2 s (hρ x) g) hnext
 |build t parts=>
  rw[hop] at g;unfold Oper.wp execOp;rw[hop]
  simp only[bE] at g
  split at g
  ·rename_i fs hu
   split at g
   ·rename_i z pls hz hp
    split at g
    ·rename_i ap hap;exact upon_res (ajQ s hu hz hp hρ hap g) hnext
    ·exact g.elim
   ·exact g.elim
  ·exact g.elim
 |buildSlice t n parts=>
  rw[hop] at g;unfold Oper.wp execOp;rw[hop]
  simp only[bE] at g
  split at g
  ·rename_i e hu
   split at g
   ·rename_i i z hi hz
    split at g
    ·rename_i ap hap;exact upon_res (ai6 s hu hi hz hρ hap g) hnext
    ·exact g.elim
   ·exact g.elim
  ·exact g.elim
 |load t x=>
  rw[hop] at g;unfold Oper.wp execOp;rw[hop]
  simp only[bE] at g
  split at g
  ·rename_i fs i hu hi;exact upon_res (akW s hu hi (hρ x) g) hnext
  ·rename_i d i hnn hu hi
   split at g
   ·rename_i hd;exact upon_res (akX s hu hd (hρ x) g) hnext
   ·exact g.elim
  ·exact g.elim
 |store t x y=>
  rw[hop] at g;unfold Oper.wp execOp;rw[hop]
  simp only[bE] at g
  split at g
  ·rename_i i hi
   obtain⟨w',h',e,hg,s',k⟩:=alS s hi (hρ x) (hρ y) g
   have:(do Instr.storeAt t (a.eval x) (a.eval y);pure .skip:Sem Next).run P w= .ok .skip w':=by simp[e]
   show o.upon P a next Q (Sem.run P (do Instr.storeAt t (a.eval x) (a.eval y);pure .skip) w)
   rw[this]
   exact hnext _ (.tup []) m h' w' hg s' (by simp only[aG];exact⟨[],aI.nil,rfl⟩) k
  ·exact g.elim
 |fieldAddr t x f=>
  rw[hop] at g;unfold Oper.wp execOp;rw[hop]
  simp only[bE] at g
  split at g
  ·rename_i fs hu
   split at g
   ·rename_i fd hf
    split at g
    ·rename_i i hi
     split at g
     ·exact g.elim
     ·rename_i hs;exact upon_res (akZ s hu hf hi hs (hρ x) g) hnext
    ·exact g.elim
   ·exact g.elim
  ·exact g.elim
 |field t x f=>
  rw[hop] at g;unfold Oper.wp execOp;rw[hop]
  simp only[bE] at g
  split at g
  ·rename_i fs hu
   split at g
   ·rename_i fd hf
    split at g
    ·rename_i fs' i hd hi;exact upon_res (akp s hu hf hd hi (hρ x) g) hnext
    ·rename_i d i hnn hd hi
     split at g
     ·rename_i hp;exact upon_res (akq s hu hf hd hp (hρ x) g) hnext
     ·exact g.elim
    ·exact g.elim
   ·exact g.elim
  ·exact g.elim
 |indexAddr t x y=>
  rw[hop] at g;unfold Oper.wp execOp;rw[hop]
  simp only[bE] at g
  split at g
  ·rename_i e hu
   split at g
   ·rename_i i hi;exact upon_res (akY s hu hi (hρ x) (hρ y) g) hnext
   ·exact g.elim
  ·exact g.elim
 |index t x y=>
  rw[hop] at g;unfold Oper.wp execOp;rw[hop]
  simp only[bE] at g
  split at g
  ·rename_i hu;exact upon_res (akn s hu (hρ x) (hρ y) g) hnext
  ·exact g.elim
 |binOp op t x y yt=>
  rw[hop] at g;unfold Oper.wp execOp;rw[hop]
  simp only[bE] at g
  have plain:∀ {d:TypeDesc} {ty:Nat},P.underlying t=some d→(ty=2→d= .bool)→(AOp.bin ty op (ρ x) (ρ y)).go P h K→Res h.n B w0 m K ((do eqGuard op t x y (a.eval x) (a.eval y);binOp op t (a.eval x) (a.eval y):Sem Value).run P w):=by
   intro d ty hu hd g
   have r:=ak3 s hu hd (hρ x) (hρ y) g
   have hx:(∃ k n,a.eval x= .int k n)∨(∃ b,a.eval x= .bool b)∨∃ st,a.eval x= .string st:=by
    have hvx:=hρ x
    simp only[AOp.go] at g
    cases anG:ρ x<;>rw[anG] at g hvx<;>simp only[aG] at hvx
    case int k n=>exact .inl ⟨k,n,hvx⟩
    case bool b=>exact .inr (.inl ⟨b,hvx⟩)
    case str st=>exact .inr (.inr ⟨st,hvx⟩)
    all_goals(split at g<;>exact g.elim)
   rw[Sem.run_bind,agW hx]
   exact r
  split at g
  ·rename_i k hu;exact upon_res (plain hu (fun h=>by cases h) g) hnext
  ·rename_i hu;exact upon_res (plain hu (fun h=>by cases h) g) hnext
  ·rename_i hu;exact upon_res (plain hu (fun _=>rfl) g) hnext
  ·rename_i fs hu
   split at g
   ·rename_i tys hf;exact upon_res (Xo s hu hf (hρ x) (hρ y) x y (neg:=false) g) hnext
   ·rename_i tys hf;exact upon_res (Xo s hu hf (hρ x) (hρ y) x y (neg:=true) g) hnext
   ·exact g.elim
  ·exact g.elim
 |unOp op t x=>
  rw[hop] at g;unfold Oper.wp execOp;rw[hop]
  exact upon_res (akU s (hρ x) g) hnext
 |convert t d x=>
  rw[hop] at g;unfold Oper.wp execOp;rw[hop]
  simp only[bE] at g
  split at g
  ·rename_i k k' hs hd;exact upon_res (akr s hs hd (hρ x) g) hnext
  ·rename_i e hs hd
   split at g
   ·rename_i he;exact upon_res (aks s hs he hd (hρ x) g) hnext
   ·exact g.elim
  ·exact g.elim
 |makeFunc fn first caps=>
  rw[hop] at g;unfold Oper.wp execOp;rw[hop]
  cases fn with
  |func f=>
   simp only[bE] at g
   split at g
   ·rename_i hf
    have hf':first= #[]:=Array.toList_inj.1 (List.length_eq_zero_iff.1 hf)
    subst hf'
    have hl:=xM hρ caps.toList
    refine upon_res (x:=Instr.makeFunc (.func f) (Array.map a.eval #[]) (Array.map a.eval caps)) ?_ hnext
    refine Res.of_run s ⟨_,rfl,?_⟩ g
    simp only[aG]
    exact⟨_,hl,by rw[←Array.toList_map,show Array.map a.eval #[]= #[] by simp]⟩
   ·exact g.elim
  |_=>exact g.elim
 |makeSlice t l c=>
  rw[hop] at g;unfold Oper.wp execOp;rw[hop]
  simp only[bE] at g
  split at g
  ·rename_i e hu
   split at g
   ·rename_i i z hi hz
    split at g
    ·exact g.elim
    ·rename_i hb;exact upon_res (ako s hu hi hz hb (hρ l) (hρ c) g) hnext
   ·exact g.elim
  ·exact g.elim
 |slice t x lo hi mx=>
  rw[hop] at g;unfold Oper.wp execOp;rw[hop]
  cases mx with
  |some v=>
   simp only[bE] at g
   split at g
   ·rename_i e hu
    split at g
    ·rename_i i hi';exact upon_res (akm s hu hi' (hρ x) (yw hρ lo) (yw hρ hi) (hρ v) g) hnext
    ·exact g.elim
   ·exact g.elim
  |none=>
   simp only[bE] at g
   split at g
   ·rename_i e hu
    split at g
    ·rename_i i hi';exact upon_res (akV s hu hi' (hρ x) (yw hρ lo) (yw hρ hi) g) hnext
    ·exact g.elim
   ·rename_i hu;exact upon_res (akl s hu (hρ x) (yw hρ lo) (yw hρ hi) g) hnext
   ·exact g.elim
 |nilCheck x=>
  rw[hop] at g;unfold Oper.wp execOp;rw[hop]
  simp only[bE,AOp.go] at g
  split at g
  ·rename_i b off hb
   have hx:=hρ x
   rw[hb] at hx
   have hx':=hx
   simp only[aG] at hx
   obtain⟨p,hp,hv⟩:=hx
   simp only[hv]
   rw[hv] at hx'
   exact hnext _ _ m h w (Grow.refl _ _) s hx' g
  ·exact g.elim
 |extract x i=>
  rw[hop] at g;unfold Oper.wp execOp;rw[hop]
  exact upon_res (ak0 s (hρ x) g) hnext
 |_=>rw[hop] at g;exact g.elim
end Go.Ab
end
section
namespace Go.Ab
open Go.RowKit
def evE (env:List AV):Operand→AV
 | .tmp t=>env.getD t .un
 | .const v=>M9 v
 | .global _=>.un
 | .func f=>.fn f []
def fG (env:List AV) (dst:Option Tmp) (v:AV):List AV:=
 match dst with
 |some d=>env.set d v
 |none=>env
def gvE (ops:Array Oper) (env:List AV) (j:Nat):AV:=
 match ops[j]? with
 |some o=>match o.dst with
  |some t=>env.getD t (.tup [])
  |none=>.tup []
 |none=>.tup []
def tK (P:Program) (ops:Array Oper) (o:Oper) (env:List AV) (k:List AV→Prog):Prog:=
 match o.guard with
 |none=>match o.op with
  | .move x=>k (fG env o.dst (evE env x))
  | .assign x=>k (fG env o.dst (evE env x))
  |op=>.op (bE P (evE env) op) fun v=>k (fG env o.dst v)
 |some (j,want)=>.gop (gvE ops env j) want (bE P (evE env) o.op) fun v=>k (fG env o.dst v)
def Ii (P:Program) (ops:Array Oper):List Nat→List AV→(List AV→Prog)→Prog
 |[],env,K=>K env
 |i::rest,env,K=>match ops[i]? with
  |some o=>tK P ops o env fun env'=>Ii P ops rest env' K
  |none=>.bad
def wD (P:Program) (ops:Array Oper) (env:List AV):List Nat→Prog→Prog
 |[],p=>p
 |i::rest,p=>match ops[i]? with
  |some o=>match o.dst with
   |some d=>match o.guard with
    |none=>.chk (bE P (evE env) o.op) (env.getD d .un) (wD P ops env rest p)
    |some (j,want)=>.kC (gvE ops env j) want (bE P (evE env) o.op) (env.getD d .un) (wD P ops env rest p)
   |none=>.bad
  |none=>.bad
def qz (P:Program) (ops:Array Oper):List (Nat × List Nat)→List AV→(List AV→Prog)→Prog
 |[],env,K=>K env
 |(i,cs)::rest,env,K=>match ops[i]? with
  |some o=>if(match o.dst with|some d=>decide (d < env.length)|none=>true)=true then tK P ops o env fun env'=>wD P ops env' cs (qz P ops rest env' K) else .bad
  |none=>.bad
def j3:List Oper→List Nat
 |[]=>[]
 |o::os=>match o.dst with
  |some d=>d::j3 os
  |none=>j3 os
def wr:Code→List Nat
 | .region _ ops _=>j3 ops.toList
 | .seq a b=>wr a++wr b
 | .cond _ a b=>wr a++wr b
 | .block _ c=>wr c
 | .loop c=>wr c
 |_=>[]
def falls:Code→Bool
 | .skip| .region .. =>true
 | .seq a b=>falls a && falls b
 | .cond _ a b=>falls a || falls b
 | .block .. =>true
 |_=>false
def outs (id:Nat):Code→Nat
 | .exit i=>if i=id then 1 else 0
 | .seq a b=>outs id a+outs id b
 | .cond _ a b=>outs id a+outs id b
 | .block _ c=>outs id c
 | .loop c=>outs id c
 |_=>0
def anA (id:Nat) (c:Code):Nat:=outs id c+(if falls c=true then 1 else 0)
def iI (c:Code) (lv:List Nat):List Nat:=lv.filter fun i=>(wr c).contains i
def pack (env:List AV) (ks:List Nat):List AV:=ks.map fun i=>env.getD i .un
def forget (env:List AV):List Nat→List AV
 |[]=>env
 |i::is=>forget (env.set i .un) is
def g (vs:List AV) (i:Nat):AV:=vs.getD i .un
def Gt (vs:List AV):List AV→List Nat→Nat→List AV
 |env,[],_=>env
 |env,k::ks,i=>Gt vs (env.set k (g vs i)) ks (i+1)
def unpack (env:List AV) (ks:List Nat) (vs:List AV):List AV:=Gt vs env ks 0
def aB (t n:Nat) (p q:Prog):Prog:=if t=n then p else q
def exs:Code→List Nat
 | .exit id=>[id]
 | .seq a b=>exs a++(exs b).filter fun i=>!(exs a).contains i
 | .cond _ a b=>exs a++(exs b).filter fun i=>!(exs a).contains i
 | .block id c=>(exs c).filter fun i=>i != id
 | .loop c=>exs c
 |_=>[]
def IE (t:Nat) (k:Nat→Prog):List Nat→Prog
 |[]=>.bad
 |i::is=>aB t (i+2) (k i) (IE t k is)
def afterX (t:Nat) (vs:List AV) (c:Code) (k:Nat→Prog):Prog:=aB t 1 (.leaf 1 vs) (IE t k (exs c))
def nD (o:Oper):List Nat:=(o.after.toList.filter fun e=>Region.binds .any e).map (·.on)
def MS:List Oper→List (List Nat)→List (List Nat)
 |[],acc=>acc
 |o::os,acc=>MS os (acc++[(nD o++(nD o).flatMap fun j=>acc.getD j []).eraseDups])
def uH (ops:List Oper):List (List Nat):=MS ops []
def floats (o:Oper):Bool:=
 match o.op with
 | .move _| .pick ..| .alloc _| .box ..| .build ..| .buildSlice ..| .makeSlice ..| .load ..| .binOp ..| .unOp ..| .convert ..| .makeFunc ..| .slice ..| .fieldAddr ..| .field ..| .indexAddr ..| .index ..| .nilCheck _| .extract .. =>true
 | .call c=>match c.callee with
  | .builtin .len| .builtin .min| .builtin .max=>true
  |_=>false
 |_=>false
def hangs (o:Oper):Bool:=
 match o.op with
 | .alloc _| .box ..| .buildSlice ..| .makeSlice ..| .load ..| .slice ..| .convert .. =>true
 |_=>false
def lK (o:Oper) (l:List Nat):Bool:=
 match o.dst with
 |some d=>l.contains d
 |none=>false
def MG (ops : Array Oper) (A : List (List Nat)) (pre : List Nat) (i : Nat) (cs rest : List Nat) : Bool :=
  match ops[i]? with
  | none => false
  | some o =>
    !pre.contains i && (nD o).all (fun j => pre.contains j) &&
    pre.all (fun x => match ops[x]? with
      | none => false
      | some ox =>
        (!lK ox (o.looksAt ops) || (A.getD i []).contains x) &&
        (if floats o = true then !lK o (ox.looksAt ops) && (ox.dst.isNone || ox.dst != o.dst)
         else (A.getD i []).contains x || (floats ox && !lK o (ox.looksAt ops) && (ox.dst.isNone || ox.dst != o.dst) && (!hangs ox || cs.contains x)))) &&
    (if floats o = true then cs.length == 0 && o.dst.isSome && !lK o (o.looksAt ops) else rest.all fun y => (A.getD y []).contains i)
def tC (ops:Array Oper) (A:List (List Nat)):List Nat→List (Nat × List Nat)→Bool
 |_,[]=>true
 |pre,(i,cs)::rest=>MG ops A pre i cs (rest.map (·.1)) && tC ops A (pre++[i]) rest
def MH (ops:Array Oper) (steps:List (Nat × List Nat)):Bool:=
 (steps.length == ops.size) && (List.range ops.size).all (fun i=>(steps.map (·.1)).contains i) && tC ops (uH ops.toList) [] steps
def tr (P:Program) (lv:List Nat) (sch:Nat→List (Nat × List Nat)) (rs:List AV→List RV):Code→List AV→(List AV→Prog)→(Nat→List AV→Prog)→Prog
 | .skip,env,kn,_=>kn env
 | .ret,env,_,_=>.fin (rs env)
 | .exit id,env,_,kx=>kx id env
 | .seq a b,env,kn,kx=>tr P lv sch rs a env (fun env'=>tr P lv sch rs b env' kn kx) kx
 | .region id ops draw,env,kn,_=>
  if draw=true then(if MH ops (sch id)=true then qz P ops (sch id) env kn else .bad)
  else Ii P ops (List.range ops.size) env kn
 | .cond c a b,env,kn,kx=>
  if(falls a && falls b)=true then
   .scope (.ite (evE env c)
     (tr P lv sch rs a env (fun e=>.leaf 0 (pack e (iI (.cond c a b) lv))) (fun id e=>.leaf (id+2) (pack e (iI (.cond c a b) lv))))
     (tr P lv sch rs b env (fun e=>.leaf 0 (pack e (iI (.cond c a b) lv))) (fun id e=>.leaf (id+2) (pack e (iI (.cond c a b) lv)))))
    (fun vs=>kn (unpack (forget env (wr (.cond c a b))) (iI (.cond c a b) lv) vs))
    (fun t vs=>afterX t vs (.cond c a b) fun id=>kx id (unpack (forget env (wr (.cond c a b))) (iI (.cond c a b) lv) vs))
  else .ite (evE env c) (tr P lv sch rs a env kn kx) (tr P lv sch rs b env kn kx)
 | .block id c,env,kn,kx=>
  if 1 < anA id c then
   .scope (tr P lv sch rs c env (fun e=>.leaf 0 (pack e (iI c lv))) (fun id' e=>if id'=id then .leaf 0 (pack e (iI c lv)) else .leaf (id'+2) (pack e (iI c lv))))
    (fun vs=>kn (unpack (forget env (wr c)) (iI c lv) vs))
    (fun t vs=>afterX t vs (.block id c) fun id=>kx id (unpack (forget env (wr c)) (iI c lv) vs))
  else tr P lv sch rs c env kn (fun id' e=>if id'=id then kn e else kx id' e)
 | .loop c,env,_,kx=>
  .loop (pack env (iI c lv))
   (fun vs=>tr P lv sch rs c (unpack (forget env (wr c)) (iI c lv) vs) (fun e=>.leaf 0 (pack e (iI c lv))) (fun id e=>.leaf (id+2) (pack e (iI c lv))))
   (fun t vs=>afterX t vs c fun id=>kx id (unpack (forget env (wr c)) (iI c lv) vs))
 |_,_,_,_=>.bad
end Go.Ab
end
section
namespace Go.Ab
open Go.RowKit
variable{B:Nat} {w0 w w':World} {m m':BM} {h:AH} {P:Program}
def Kept (W:List Nat) (a0 a:Act):Prop:=a.tmps.size=a0.tmps.size∧∀ t,t ∉ W→a.tmps[t]? =a0.tmps[t]?
theorem Kept.refl (W:List Nat) (a:Act):Kept W a a:=⟨rfl,fun _ _=>rfl⟩
theorem Kept.trans {W W':List Nat} {a b c:Act} (h:Kept W a b) (k:Kept W' b c):Kept (W++W') a c:=
 ⟨k.1.trans h.1,fun t ht=>by simp at ht;rw[k.2 t ht.2,h.2 t ht.1]⟩
theorem Kept.mono {W W':List Nat} {a b:Act} (h:Kept W a b) (hw:∀ t,t∈W→t∈W'):Kept W' a b:=⟨h.1,fun t ht=>h.2 t fun g=>ht (hw t g)⟩
theorem Kept.put {W:List Nat} (a:Act) (dst:Option Tmp) (v:Value) (hd:∀ d,dst=some d→d∈W):Kept W a (a.put dst v):=by
 cases dst with
 |none=>exact Kept.refl _ _
 |some d=>
  refine⟨by simp[Act.put],fun t ht=>?_⟩
  have:d≠t:=fun e=>ht (e▸hd d rfl)
  simp[Act.put,Array.getElem?_setIfInBounds_ne this]
theorem ajM {env:List AV} {l:List Value} (r:aI m env l) (d:Nat) {av:AV} {v:Value} (hv:aG m av v):aI m (env.set d av) (l.set d v):=by
 refine aI.wm (by simp[r.length]) fun i x y hx hy=>?_
 rw[List.getElem?_set] at hx hy
 by_cases e:d=i
 ·subst e
  rw[if_pos rfl] at hx hy
  split at hx
  ·split at hy
   ·cases hx;cases hy;exact hv
   ·cases hy
  ·cases hx
 ·rw[if_neg e] at hx hy
  obtain⟨z,h1,h2⟩:=r.get i x hx
  rw[h1] at hy;cases hy;exact h2
theorem ajN {env:List AV} {a:Act} (r:aI m env a.tmps.toList) (dst:Option Tmp) {av:AV} {v:Value} (hv:aG m av v):aI m (fG env dst av) (a.put dst v).tmps.toList:=by
 cases dst with
 |none=>exact r
 |some d=>simpa[fG,Act.put] using ajM r d hv
theorem FY {env:List AV} {l:List Value} (r:aI m env l) (t:Nat) (dv:Value):aG m (env.getD t .un) (l.getD t dv):=by
 rw[List.getD_eq_getElem?_getD]
 cases hx:env[t]? with
 |none=>exact qy _
 |some x=>
  obtain⟨v,h1,h2⟩:=r.get t x hx
  simpa[List.getD_eq_getElem?_getD,h1] using h2
theorem XQ {env:List AV} {a:Act} (r:aI m env a.tmps.toList) (x:Operand):aG m (evE env x) (a.eval x):=by
 cases x with
 |tmp t=>simpa[evE,Act.eval] using FY r t undef
 |const v=>exact U6 v
 |global g=>exact qy _
 |func f=>simp only[evE,Act.eval,aG];exact⟨[],aI.nil,rfl⟩
theorem LB:aG m (.tup []) undef:=by simp only[aG];exact⟨[],aI.nil,rfl⟩
theorem VU {ops:Array Oper} {env:List AV} {a:Act} {j:Nat} (r:∀ t o,ops[j]? =some o→o.dst=some t→(∀ x,env[t]? =some x→∃ v,a.tmps[t]? =some v∧aG m x v)∧(env[t]? =none→a.tmps[t]? =none)):
  (∀ b,gvE ops env j= .bool b→yielded ops a.tmps j=some b)∧(gvE ops env j= .tup []→yielded ops a.tmps j=none):=by
 unfold gvE yielded
 cases ho:ops[j]? with
 |none=>simp
 |some oj=>
  simp only[Option.bind_some]
  cases hd:oj.dst with
  |none=>simp
  |some t=>
   simp only[Option.bind_some]
   obtain⟨r1,r2⟩:=r t oj ho hd
   cases hx:env[t]? with
   |none=>simp[List.getD_eq_getElem?_getD,hx,r2 hx]
   |some x=>
    obtain⟨v,h1,h2⟩:=r1 x hx
    simp only[List.getD_eq_getElem?_getD,hx,Option.getD_some,h1]
    refine⟨fun b hb=>?_,fun hb=>?_⟩
    ·subst hb;simp only[aG] at h2;subst h2;rfl
    ·subst hb;simp only[aG] at h2;obtain⟨l,hl,rfl⟩:=h2;rfl
theorem WB {ops:Array Oper} {i:Nat} {o:Oper} (hi:ops[i]? =some o) {env:List AV} {a:Act} {ρ:Operand→AV} (hρ:∀ x,aG m (ρ x) (a.eval x)) (hop:bE P ρ o.op=bE P (evE env) o.op)
  (hgd:∀ j want,o.guard=some (j,want)→(∀ b,gvE ops env j= .bool b→yielded ops a.tmps j=some b)∧(gvE ops env j= .tup []→yielded ops a.tmps j=none))
  (s:Sim B w0 m h w) {k:List AV→Prog} {Q:Nat→List AV→AH→Prop}
  (g:(tK P ops o env k).awp P h Q) {next:Act→World→Prop} {Qx:Exit→Act→World→Prop}
  (hnext:∀ v av m' h' w',Grow h.n m h'.n m'→Sim B w0 m' h' w'→aG m' av v→(k (fG env o.dst av)).awp P h' Q→next (a.put o.dst v) w'):
  wpOp P ops Qx i next a w:=by
 have run:∀ {K:AV→AH→Prop},(bE P (evE env) o.op).go P h K→(∀ v h',K v h'→(k (fG env o.dst v)).awp P h' Q)→o.wp P a w next Qx:=fun g hk=>
  WC hρ s (by rw[hop];exact g) fun v av m' h' w' h1 h2 h3 h4=>hnext v av m' h' w' h1 h2 h3 (hk _ _ h4)
 unfold wpOp
 rw[hi]
 simp only
 unfold tK at g
 cases hg:o.guard with
 |none=>
  rw[hg] at g
  simp only at g
  have hw:Region.wanted o (yielded ops a.tmps)=true:=by simp[Region.wanted,hg]
  rw[if_pos hw]
  left
  split at g
  ·rename_i x hop
   exact run (K:=fun v h'=>v=evE env x∧h'=h) (by rw[hop];simp[bE,AOp.go]) (by rintro v h' ⟨rfl,rfl⟩;exact g)
  ·rename_i x hop
   exact run (K:=fun v h'=>v=evE env x∧h'=h) (by rw[hop];simp[bE,AOp.go]) (by rintro v h' ⟨rfl,rfl⟩;exact g)
  ·exact run g fun v h' hk=>hk
 |some jw=>
  obtain⟨j,want⟩:=jw
  rw[hg] at g
  simp only at g
  obtain⟨hyb,hyt⟩:=hgd j want hg
  have hwb:∀ b,gvE ops env j= .bool b→Region.wanted o (yielded ops a.tmps)=(b == want):=fun b hb=>by
   unfold Region.wanted;rw[hg];simp only;rw[hyb b hb];cases b<;>cases want<;>rfl
  have hwt:gvE ops env j= .tup []→Region.wanted o (yielded ops a.tmps)=false:=fun hb=>by
   unfold Region.wanted;rw[hg];simp only;rw[hyt hb];cases want<;>rfl
  have skip:Region.wanted o (yielded ops a.tmps)=false→(k (fG env o.dst (.tup []))).awp P h Q→(if Region.wanted o (yielded ops a.tmps)=true then o.wp P a w next Qx∨o.asks P a w∧LetsOut Qx else next (a.put o.dst undef) w):=by
   intro hw g
   rw[hw,if_neg (by simp)]
   exact hnext undef (.tup []) m h w (Grow.refl _ _) s LB g
  cases hc:gvE ops env j with
  |bool b=>
   rw[hc] at g
   simp only[Prog.awp] at g
   split at g
   ·rename_i e
    have hw:=hwb b hc
    rw[e,beq_self_eq_true] at hw
    rw[if_pos hw]
    exact .inl (run g fun v h' hk=>hk)
   ·rename_i e
    refine skip ?_ g
    rw[hwb b hc]
    simpa using e
  |tup vs=>
   cases vs with
   |nil=>rw[hc] at g;exact skip (hwt hc) g
   |cons x xs=>rw[hc] at g;exact g.elim
  |_=>rw[hc] at g;exact g.elim
theorem amj {ops:Array Oper} {env:List AV} {a:Act} (r:aI m env a.tmps.toList) (j:Nat):
  (∀ b,gvE ops env j= .bool b→yielded ops a.tmps j=some b)∧(gvE ops env j= .tup []→yielded ops a.tmps j=none):=
 VU fun t o _ _=>⟨fun x hx=>by simpa using r.get t x hx,fun hx=>by
  have:=List.getElem?_eq_none_iff.1 hx
  rw[r.length] at this
  exact Array.getElem?_eq_none (by simpa using this)⟩
theorem aji {ops:Array Oper} {i:Nat} {o:Oper} (hi:ops[i]? =some o) {env:List AV} {a:Act} (r:aI m env a.tmps.toList) (s:Sim B w0 m h w) {k:List AV→Prog} {Q:Nat→List AV→AH→Prop}
  (g:(tK P ops o env k).awp P h Q) {next:Act→World→Prop} {Qx:Exit→Act→World→Prop}
  (hnext:∀ v av m' h' w',Grow h.n m h'.n m'→Sim B w0 m' h' w'→aI m' (fG env o.dst av) (a.put o.dst v).tmps.toList→(k (fG env o.dst av)).awp P h' Q→next (a.put o.dst v) w'):
  wpOp P ops Qx i next a w:=
 WB hi (XQ r) rfl (fun j _ _=>amj r j) s g fun v av m' h' w' h1 h2 h3 h4=>hnext v av m' h' w' h1 h2 (ajN (aI.mono (h1.le s) _ _ r) _ h3) h4
theorem put_defers (a:Act) (dst:Option Tmp) (v:Value):(a.put dst v).defers=a.defers:=by cases dst<;>rfl
theorem VK:∀ {l:List Oper} {o:Oper} {d:Nat},o∈l→o.dst=some d→d∈j3 l
 |[],o,d,h,_=>by cases h
 |x::l,o,d,h,hd=>by
  rcases List.mem_cons.1 h with rfl|h
  ·simp[j3,hd]
  ·have:=VK h hd
   unfold j3;split
   ·exact List.mem_cons_of_mem _ this
   ·exact this
theorem VH {ops:Array Oper} {Qx:Exit→Act→World→Prop} {Q:Nat→List AV→AH→Prop} {kn:List AV→Prog} {n0:Nat} {m0:BM} {a0:Act}
  (hQ:∀ env' a' m' h' w',Grow n0 m0 h'.n m'→Sim B w0 m' h' w'→aI m' env' a'.tmps.toList→a'.defers=[]→Kept (j3 ops.toList) a0 a'→(kn env').awp P h' Q→Qx .normal a' w'):
  ∀ (l:List Nat) (env:List AV) (a:Act) (m:BM) (h:AH) (w:World),Grow n0 m0 h.n m→Sim B w0 m h w→aI m env a.tmps.toList→a.defers=[]→Kept (j3 ops.toList) a0 a→(Ii P ops l env kn).awp P h Q→wpOps P ops Qx l a w
 |[],env,a,m,h,w,hg,s,r,hd,hk,g=>hQ env a m h w hg s r hd hk g
 |i::rest,env,a,m,h,w,hg,s,r,hd,hk,g=>by
  rw[wpOps_cons]
  simp only[Ii] at g
  split at g
  ·rename_i o ho
   refine aji ho r s g fun v av m' h' w' g1 g2 g3 g4=>?_
   have hmem:o∈ops.toList:=List.mem_of_getElem? (by rw[Array.getElem?_toList];exact ho)
   exact VH hQ rest _ _ m' h' w' (hg.trans g1) g2 g3 (by rw[put_defers];exact hd)
    ⟨by rw[←hk.1];cases o.dst<;>simp[Act.put],fun t ht=>by rw[(Kept.put (W:=j3 ops.toList) a o.dst v fun d hd=>VK hmem hd).2 t ht,hk.2 t ht]⟩ g4
  ·exact g.elim
theorem TY:∀ (is:List Nat) (env:List AV),(forget env is).length=env.length
 |[],_=>rfl
 |i::is,env=>by simp[forget,TY is]
theorem Vw:∀ (is:List Nat) (env:List AV) (t:Nat) (x:AV),(forget env is)[t]? =some x→x= .un∨(t ∉ is∧env[t]? =some x)
 |[],env,t,x,hx=>.inr ⟨by simp,hx⟩
 |i::is,env,t,x,hx=>by
  rcases Vw is (env.set i .un) t x hx with h|⟨h1,h2⟩
  ·exact .inl h
  ·rw[List.getElem?_set] at h2
   by_cases e:i=t
   ·rw[if_pos e] at h2
    split at h2
    ·cases h2;exact .inl rfl
    ·cases h2
   ·rw[if_neg e] at h2
    exact .inr ⟨by simp;exact⟨fun g=>e g.symm,h1⟩,h2⟩
theorem amk (env:List AV) (ks:List Nat) (i:Nat) (k:Nat) (hk:ks[i]? =some k):g (pack env ks) i=env.getD k .un:=by
 simp[g,pack,List.getD_eq_getElem?_getD,hk]
theorem UG {env':List AV} {l:List Value} (r':aI m env' l) (all:List Nat):∀ (ks:List Nat) (i:Nat) (e:List AV),(∀ j k,ks[j]? =some k→all[i+j]? =some k)→aI m e l→aI m (Gt (pack env' all) e ks i) l
 |[],i,e,_,r=>r
 |k::ks,i,e,ha,r=>by
  simp only[Gt]
  refine UG r' all ks (i+1) _ (fun j k' hj=>by rw[show i+1+j=i+(j+1) by omega];exact ha (j+1) k' (by simpa using hj)) ?_
  rw[amk env' all i k (by simpa using ha 0 k rfl)]
  refine aI.wm (by simp[r.length]) fun i x y hx hy=>?_
  rw[List.getElem?_set] at hx
  by_cases e1:k=i
  ·rw[if_pos e1] at hx
   subst e1
   split at hx
   ·simp only[Option.some.injEq] at hx;subst hx
    have:=FY r' k undef
    rw[List.getD_eq_getElem?_getD (l:=l),hy] at this
    exact this
   ·cases hx
  ·rw[if_neg e1] at hx
   obtain⟨z,h1,h2⟩:=r.get i x hx
   rw[h1] at hy;cases hy;exact h2
theorem ai2 {env':List AV} {l:List Value} (r':aI m env' l) (ks:List Nat) (e:List AV) (r:aI m e l):aI m (unpack e ks (pack env' ks)) l:=
 UG r' ks ks 0 e (fun j k hj=>by simpa using hj) r
theorem Wt {Q:Nat→List AV→AH→Prop} (id:Nat) (k:Nat→Prog):∀ (l:List Nat),(IE (id+2) k l).awp P h Q→(k id).awp P h Q
 |[],g=>g.elim
 |i::is,g=>by
  simp only[IE,aB] at g
  split at g
  ·rename_i e
   have:id=i:=by omega
   subst this;exact g
  ·exact Wt id k is g
theorem Lv {Q:Nat→List AV→AH→Prop} {id:Nat} {vs:List AV} {c:Code} {k:Nat→Prog} (g:(afterX (id+2) vs c k).awp P h Q):(k id).awp P h Q:=by
 simp only[afterX,aB] at g
 rw[if_neg (by omega)] at g
 exact Wt id k _ g
theorem sW {env env':List AV} {a0 a:Act} {W:List Nat} (r0:aI m env a0.tmps.toList) (hle:m.le m') (hk:Kept W a0 a) (r':aI m' env' a.tmps.toList) (ks:List Nat):
  aI m' (unpack (forget env W) ks (pack env' ks)) a.tmps.toList:=by
 refine ai2 r' ks _ (aI.wm (by rw[TY,r0.length];simpa using hk.1.symm) fun i x y hx hy=>?_)
 rcases Vw _ _ _ _ hx with rfl|⟨h1,h2⟩
 ·exact qy _
 ·obtain⟨z,g1,g2⟩:=r0.get i x h2
  have:=hk.2 i h1
  rw[Array.getElem?_toList] at g1 hy
  rw[this,g1] at hy
  cases hy
  exact aG.mono hle _ _ g2
end Go.Ab
end
section
namespace Go.Ab
open Go.RowKit
variable{B:Nat} {w0 w w':World} {m m':BM} {h:AH} {P:Program}
theorem KD {ρ ρ':Operand→AV} (pl:Nat→Option (Nat × Nat)):∀ (l:List (Nat × Operand)),(∀ p∈l,ρ p.2=ρ' p.2)→jX pl ρ l=jX pl ρ' l
 |[],_=>rfl
 |(i,x)::l,hh=>by
  simp only[jX]
  rw[KD pl l fun p hp=>hh p (List.mem_cons_of_mem _ hp),hh (i,x) (List.mem_cons_self ..)]
theorem U8 {ρ ρ':Operand→AV} (op:Op) (hh:∀ x∈op.operands,ρ x=ρ' x):bE P ρ op=bE P ρ' op:=by
 cases op<;>simp only[Op.operands] at hh<;>simp only[bE]
 case build t ps=>
  have e:∀ pl,jX pl ρ ps.toList=jX pl ρ' ps.toList:=fun pl=>KD pl ps.toList fun p hp=>hh p.2 (by simp;exact⟨p.1,by simpa using hp⟩)
  simp only[e]
 case buildSlice t n ps=>
  have e:∀ pl,jX pl ρ ps.toList=jX pl ρ' ps.toList:=fun pl=>KD pl ps.toList fun p hp=>hh p.2 (by simp;exact⟨p.1,by simpa using hp⟩)
  simp only[e]
 case call c=>
  obtain⟨callee,args,argTypes⟩:=c
  have IV:∀ x∈args.toList,ρ x=ρ' x:=fun x hx=>hh x (by
   simp only[Call.operands,Array.mem_append]
   exact .inr (Array.mem_toList_iff.1 hx))
  have e:args.toList.map ρ=args.toList.map ρ':=List.map_congr_left IV
  have e1:∀ x,args.toList=[x]→ρ x=ρ' x:=fun x hx=>IV x (by simp[hx])
  have e2:∀ x y,args.toList=[x,y]→ρ x=ρ' x∧ρ y=ρ' y:=fun x y hx=>⟨IV x (by simp[hx]),IV y (by simp[hx])⟩
  cases callee with
  |value f=>
   have ef:ρ f=ρ' f:=hh f (by simp[Call.operands])
   cases f<;>simp only[nE,e,ef]
  |invoke r n=>rfl
  |builtin b=>
   simp only[nE,e]
   split
   ·rename_i x t hx ht;rw[e1 x hx]
   ·rename_i x y t u hx ht;rw[(e2 x y hx).1,(e2 x y hx).2]
   ·rename_i x t hx ht;rw[e1 x hx]
   ·rw[e]
   ·rw[e]
   ·rfl
 case makeFunc fn first caps=>
  cases fn<;>simp only[bE]
  have e:caps.toList.map ρ=caps.toList.map ρ':=List.map_congr_left fun x hx=>hh x (by simp;right;simpa using hx)
  rw[e]
 case slice t x lo hi mx=>
  have ex:ρ x=ρ' x:=hh x (by simp)
  have el:lo.map ρ=lo.map ρ':=by cases lo<;>simp;exact hh _ (by simp)
  have eh:hi.map ρ=hi.map ρ':=by cases hi<;>simp;exact hh _ (by simp)
  cases mx with
  |none=>simp only[bE];rw[ex,el,eh]
  |some v=>
   have ev:ρ v=ρ' v:=hh v (by simp)
   simp only[bE];rw[ex,el,eh,ev]
 all_goals first
  |rfl
  |(simp only[hh _ (by simp)];done)
  |(rw[hh _ (by simp)];done)
  |(simp_all;done)
end Go.Ab
end
section
namespace Go.Ab
open Go.RowKit
variable{B:Nat} {w0 w w':World} {m m':BM} {h:AH} {P:Program}
def AOp.fl:AOp→Bool
 | .st ..| .call ..| .iC ..| .app ..| .clr ..| .cpy ..| .Zv .. =>false
 |_=>true
def AOp.news:AOp→Bool
 | .alloc _| .box _| .aU ..| .iw .. =>true
 |_=>false
def AOp.deps:AOp→Bool
 | .alloc _| .box _| .aU ..| .iw ..| .ld1 _| .ldn ..| .slc ..| .CG _=>true
 |_=>false
def ko:AOp→AV→Option Nat
 | .alloc _,.ptr b _=>some b
 | .box _,.ptr b _=>some b
 | .aU ..,.sl b _ _=>some b
 | .iw ..,.sl b _ _=>some b
 |_,_=>none
theorem Nb {ρ:Operand→AV} {o:Oper} (hf:floats o=true):(bE P ρ o.op).fl=true:=by
 unfold floats at hf
 cases hop:o.op<;>rw[hop] at hf<;>simp only[Bool.false_eq_true] at hf<;>simp only[bE]
 case call c=>
  simp only[nE]
  split at hf<;>(rename_i hc;first|(rw[hc];simp only)|simp at hf)
  all_goals(repeat' split)
  all_goals first|rfl|simp_all
 case makeFunc fn first caps=>cases fn<;>simp only[bE]<;>(repeat' split)<;>rfl
 case slice t x lo hi mx=>cases mx<;>simp only[bE]<;>(repeat' split)<;>rfl
 all_goals(repeat' split)
 all_goals rfl
theorem alr {ρ:Operand→AV} {o:Oper} (hf:hangs o=false) (hfl:floats o=true):(bE P ρ o.op).deps=false:=by
 unfold floats at hfl
 unfold hangs at hf
 cases hop:o.op<;>rw[hop] at hf hfl<;>simp only[Bool.false_eq_true,Bool.true_eq_false] at hf hfl<;>simp only[bE]
 case call c=>
  simp only[nE]
  split at hfl<;>(rename_i hc;first|(rw[hc];simp only)|simp at hfl)
  all_goals(repeat' split)
  all_goals rfl
 case makeFunc fn first caps=>cases fn<;>simp only[bE]<;>(repeat' split)<;>rfl
 all_goals(repeat' split)
 all_goals rfl
theorem go_still {ao:AOp} (hf:ao.fl=true) {K:AV→AH→Prop} (g:ao.go P h K):
  ∃ v h',K v h'∧ao.still P v h'∧((ao.news=false∧h'=h)∨(ko ao v=some h.n∧∃ k:Blk,k.st=0∧h'=h.push k)):=by
 cases ao<;>simp only[AOp.fl,Bool.false_eq_true] at hf<;>simp only[AOp.go,AOp.still,AOp.news,ko] at g ⊢
 case alloc cells=>exact⟨_,_,g,by simp[AH.push],.inr ⟨rfl,_,rfl,rfl⟩⟩
 case box v=>
  split at g
  ·rename_i cs hc
   refine⟨_,_,g,?_,.inr ⟨rfl,_,rfl,rfl⟩⟩
   simp[hc,AH.push]
  ·exact g.elim
 case aU es n zero parts=>
  split at g
  ·rename_i cs hc
   refine⟨_,_,g.2.2,?_,.inr ⟨rfl,_,rfl,rfl⟩⟩
   simp only[hc]
   exact⟨trivial,g.1,g.2.1,by simp[AH.push]⟩
  ·exact g.elim
 case iw es bytes zero n c=>
  split at g
  ·exact⟨_,_,g.2.2.2,⟨g.1,g.2.1,g.2.2.1,rfl,by simp[AH.push],by simp[AH.push],by simp[AH.push]⟩,.inr ⟨rfl,_,rfl,rfl⟩⟩
  ·exact g.elim
 case jR x i=>
  split at g
  ·obtain⟨h0,c,hc,k⟩:=g;exact⟨_,_,k,⟨h0,c,hc,rfl,by simp⟩,.inl (by simp)⟩
  ·exact g.elim
 case slc es x lo hi mx=>
  split at g
  ·rename_i b off ln
   split at g
   ·rename_i l hh h1 h2
    obtain⟨q1,q2,q3,q4,q5,q6,q7,q8⟩:=g
    split at q8
    ·exact⟨_,_,q8,by simp only[h1,h2];exact⟨q1,q2,q3,q4,q5,q6,q7,by simp⟩,.inl (by simp)⟩
    ·exact q8.elim
   ·exact g.elim
  ·split at g
   ·rename_i l hh h1 h2
    exact⟨_,_,g.2.2.2,by simp only[h1,h2];exact⟨g.1,g.2.1,g.2.2.1,by simp⟩,.inl (by simp)⟩
   ·exact g.elim
  ·exact g.elim
 all_goals(repeat' split at g)
 all_goals first
  |exact g.elim
  |exact⟨_,_,g,by simp_all,.inl (by simp)⟩
  |exact⟨_,_,g.2,by simp_all,.inl (by simp)⟩
  |exact⟨_,_,g.2.2,by simp_all,.inl (by simp)⟩
  |exact⟨_,_,g.2.2.2,by simp_all,.inl (by simp)⟩
  |exact⟨_,_,g.2.2.2.2.2,by simp_all,.inl (by simp)⟩
  |exact⟨_,_,g.2.2.2.2.2.2,by simp_all,.inl (by simp)⟩
theorem U9 {ao:AOp} (hf:ao.fl=true) (hd:ao.deps=false) {v:AV} {h h':AH} (s:ao.still P v h):ao.still P v h':=by
 cases ao<;>simp only[AOp.fl,Bool.false_eq_true] at hf<;>simp only[AOp.deps,Bool.true_eq_false] at hd<;>simp only[AOp.still,AOp.go] at s ⊢
 all_goals(repeat' split at s)
 all_goals first
  |exact s.elim
  |(simp_all;done)
  |skip
theorem ai5 {ao:AOp} (hf:ao.fl=true) {v:AV} (k:Blk) (hfr:∀ b,h.n≤b→(h.get b).st=2) (hb:∀ b,ko ao v=some b→b < h.n) (s:ao.still P v h):ao.still P v (h.push k):=by
 have hget:∀ b,live h b→(h.push k).get b=h.get b:=by
  intro b hb
  have:b≠h.n:=fun e=>hb (hfr b (by omega))
  simp[AH.push,this]
 have Ip:∀ b,b < h.n→(h.push k).get b=h.get b:=by
  intro b hb
  have:b≠h.n:=by omega
  simp[AH.push,this]
 by_cases hd:ao.deps=true
 ·cases ao<;>simp only[AOp.fl,Bool.false_eq_true] at hf<;>simp only[AOp.deps,Bool.false_eq_true] at hd<;>simp only[AOp.still,AOp.go] at s ⊢
  case alloc cells=>
   split at s
   ·rename_i b;rw[Ip b (hb b rfl)];exact s
   ·exact s.elim
  case box x=>
   split at s
   ·rename_i b cs hc;rw[Ip b (hb b rfl)];exact s
   ·exact s.elim
  case aU es n zero parts=>
   split at s
   ·rename_i b q cs hc;rw[Ip b (hb b rfl)];exact s
   ·exact s.elim
  case iw es bytes zero n c=>
   split at s
   ·rename_i b q n1 c1;rw[Ip b (hb b rfl)];exact s
   ·exact s.elim
  case ld1 a=>
   split at s
   ·rename_i b o
    split at s
    ·rename_i x hx
     have e:=hget b s.1
     simp only[e,hx,live]
     exact⟨s.1,s.2.1,trivial⟩
    ·exact s.elim
   ·exact s.elim
  case ldn n a=>
   split at s
   ·rename_i b o
    have e:=hget b s.1
    simp only[e,live]
    exact⟨s.1,s.2.1,s.2.2.1,trivial⟩
   ·exact s.elim
  case slc es x lo hi mx=>
   split at s
   ·rename_i b off ln
    split at s
    ·rename_i l hh h1 h2
     obtain⟨q1,q2,q3,q4,q5,q6,q7,q8⟩:=s
     have e:=hget b (by unfold live;unfold mine at q3;omega)
     simp only[h1,h2,e,mine]
     refine⟨q1,q2,q3,q4,q5,q6,q7,?_⟩
     split at q8
     ·exact⟨q8.1,trivial⟩
     ·exact q8.elim
    ·exact s.elim
   ·split at s
    ·rename_i l hh h1 h2
     exact s
    ·exact s.elim
   ·exact s.elim
  case CG x=>
   have e1:Cn (h.push k) x=Cn h x∧(Co h x→Co (h.push k) x):=by
    split at s
    ·rename_i st hst
     cases x<;>first|exact⟨rfl,fun _=>trivial⟩|skip
     rename_i b off ln
     have e:=hget b s.1
     exact⟨by simp only[Cn,e],fun hl=>by simp only[Co,live,e] at hl ⊢;exact hl⟩
    ·exact s.elim
   rw[e1.1]
   split at s
   ·exact⟨e1.2 s.1,s.2.1,trivial⟩
   ·exact s.elim
 ·exact U9 hf (by simpa using hd) s
end Go.Ab
end
section
namespace Go.Ab
open Go.RowKit
variable{B:Nat} {w0 w w':World} {m m':BM} {h:AH} {P:Program}
theorem Hz {b:Nat} (p:Pl) (hm:m b=none):m.le (m.add b p):=by
 intro x q hq
 have:x≠b:=fun e=>by rw[e,hm] at hq;cases hq
 simp[BM.add,this,hq]
theorem Sim.alJ (s:Sim B w0 m h w) {b:Nat} (hbn:b < h.n) (hm:m b=none) (p:Pl) (hst:(h.get b).st=0) (ho:I6 B (h.get b) p w) (hb:wT (m.add b p) (h.get b) p w)
  (hs:∀ b' p',m b'=some p'→(h.get b').st=0→Apart (h.get b') p' (h.get b) p):Sim B w0 (m.add b p) h w:=by
 have hle:=Hz (m:=m) p hm
 have old:∀ x q,x≠b→m.add b p x=some q→m x=some q:=by
  intro x q hne hq
  simpa only[BM.add,hne,if_false] using hq
 have new:∀ q,m.add b p b=some q→q=p:=by
  intro q hq
  simp only[BM.add,if_true,Option.some.injEq] at hq
  exact hq.symm
 refine⟨s.below,s.room,?_,?_,?_,?_,?_,s.sts,s.fresh⟩
 ·intro x q hq
  by_cases e:x=b
  ·subst e;exact hbn
  ·exact s.dom x q (old x q e hq)
 ·intro x q hq hx
  by_cases e:x=b
  ·subst e;rw[new q hq];exact hb
  ·exact(s.blk x q (old x q e hq) hx).mono hle
 ·intro x q hq hx
  by_cases e:x=b
  ·subst e;rw[new q hq];exact ho
  ·exact s.own x q (old x q e hq) hx
 ·intro x q hq hx
  by_cases e:x=b
  ·subst e;omega
  ·exact s.old x q (old x q e hq) hx
 ·intro x y q q' hne hq hq' hx hy
  by_cases e:x=b
  ·subst e
   rw[new q hq]
   exact(hs y q' (old y q' (fun e=>hne e.symm) hq') hy).symm
  ·by_cases e':y=b
   ·subst e'
    rw[new q' hq']
    exact hs x q (old x q e hq) hx
   ·exact s.sep x y q q' hne (old x q e hq) (old y q' e' hq') hx hy
theorem Sim.amC (s:Sim B w0 m h w) (k:Blk) (hk:k.st=0):Sim B w0 m (h.push k) w:=by
 have hne:∀ b p,m b=some p→b≠h.n:=fun b p hp e=>by have:=s.dom b p hp;omega
 have hg:∀ b p,m b=some p→(h.push k).get b=h.get b:=fun b p hp=>by simp[AH.push,hne b p hp]
 refine⟨s.below,s.room,?_,?_,?_,?_,?_,?_,?_⟩
 ·intro b p hp;have:=s.dom b p hp;simp only[AH.push];omega
 ·intro b p hp hx;rw[hg b p hp] at hx ⊢;exact s.blk b p hp hx
 ·intro b p hp hx;rw[hg b p hp] at hx ⊢;exact s.own b p hp hx
 ·intro b p hp hx;rw[hg b p hp] at hx ⊢;exact s.old b p hp hx
 ·intro b b' p p' hn hp hp' hx hx'
  rw[hg b p hp] at hx ⊢;rw[hg b' p' hp'] at hx' ⊢
  exact s.sep b b' p p' hn hp hp' hx hx'
 ·intro b
  by_cases e:b=h.n
  ·subst e;simp[AH.push,hk]
  ·simp only[AH.push,e,if_false];exact s.sts b
 ·intro b hb
  have e:b≠h.n:=fun e=>by simp only[AH.push] at hb;omega
  simp only[AH.push,e,if_false] at hb ⊢
  exact s.fresh b (by omega)
theorem Sim.Hy (s:Sim B w0 m h w) {b:Nat} (hbn:b < h.n) (hm:m b=none) (hst:(h.get b).st=0) (c:Array Value) (e:TypeId) (hlen:(h.get b).cells.length=c.size) (hr:aI m (h.get b).cells c.toList) (h1:∀ x∈c.toList,x.oneCell'=true):
  Sim B w0 (m.add b ⟨w.heap.size,0,c.size,(h.get b).es⟩) h (w.alloc (.cells c e)):=by
 have hg:(w.alloc (.cells c e)).heap[w.heap.size]? =some (.cells c e (0,0)):=by show(w.heap.push _)[w.heap.size]? =_;simp
 refine(s.alloc _).alJ hbn hm _ hst ⟨s.room,fun _=>by simp[hlen],c,e,hg,by simp[ext,hlen]⟩ ⟨rfl,fun i v hv=>?_⟩ ?_
 ·obtain⟨v',g1,g2⟩:=hr.get i v hv
  refine⟨v',?_,aG.mono (Hz _ hm) _ _ g2,h1 v' (List.mem_of_getElem? g1)⟩
  unfold World.cell?
  rw[show(w.alloc (.cells c e)).heap[(⟨w.heap.size,0+i,none⟩:Addr).block]? =_ from hg]
  simpa using g1
 ·intro b' p hp hx
  obtain⟨_,_,c',e',h3,_⟩:=s.own b' p hp hx
  left
  have:=(Array.getElem?_eq_some_iff.1 h3).1
  simp;omega
theorem ajI {t e:TypeId} {i:TypeInfo} {zs:List AV} (hu:P.underlying t=some (.slice e)) (hi:P.info? e=some i) (hz:lJ P e=some zs) {ρ:Operand→AV} {a:Act} (hρ:∀ x,aG m (ρ x) (a.eval x)) {n:Nat} {parts:Array (Nat × Operand)} {ap:List (Nat × Nat × AV)}
  (hap:jX (fun j=>some (j * i.size,i.size)) ρ parts.toList=some ap) {cs:List AV} (hcs:cZ (List.replicate n zs).flatten ap=some cs) (hsm:n * i.size≤16777216) (hlen:cs.length=n * i.size):
  ∃ c:Array Value,aI m cs c.toList∧(∀ x∈c.toList,x.oneCell'=true)∧c.size=n * i.size∧(Instr.buildSlice t n (parts.map fun x=>(x.1,a.eval x.2))).run P w= .ok (.slice (some ⟨w.heap.size,0,none⟩) n n) (w.alloc (.cells c e)):=by
 obtain⟨i',z,hi',hz',hr,h1,hl,hs⟩:=oO (m:=m) hz
 rw[hi] at hi';cases hi'
 have hfl:=AU (m:=m) hr n
 have ug:(madeCells z.cells (n * i.size)).toList=(List.replicate n z.cells.toList).flatten:=by
  apply List.ext_getElem?
  intro j
  by_cases hj:j < n * i.size
  ·have hlt:j < ((List.replicate n z.cells.toList).flatten).length:=by simp[hs];exact hj
   rw[List.getElem?_eq_getElem hlt,Array.getElem?_toList]
   exact Bo z.cells n i.size hs j _ (List.getElem?_eq_getElem hlt)
  ·rw[List.getElem?_eq_none (by simp[size_madeCells];omega),List.getElem?_eq_none (by simp[hs];omega)]
 obtain⟨cells',g1,g2,g3⟩:=Gq hρ _ parts.toList ap _ (madeCells z.cells (n * i.size)) cs hap (by rw[ug];exact hfl) (by
  rw[ug]
  intro x hx
  obtain⟨l,hl1,hl2⟩:=List.mem_flatten.1 hx
  rw[List.eq_of_mem_replicate hl1] at hl2
  exact h1 x hl2) hcs
 have hsz:cells'.size=n * i.size:=by have:=g2.length;simp at this;omega
 refine⟨cells',g2,g3,hsz,?_⟩
 by_cases h0:n * i.size=0
 ·have hmk:madeCells z.cells (n * i.size)= #[]:=by rw[h0];simp[madeCells]
  rw[hmk] at g1
  simp[Instr.buildSlice,run_underlying hu,jN hi,h0,newRow,Array.range_zero',g1]
 ·have NC: ¬ (16777216 < n * i.size):=by omega
  unfold madeCells at g1
  simp[Instr.buildSlice,run_underlying hu,jN hi,vJ hi hz',h0,NC,newRow,g1]
theorem akx {o:Oper} {a:Act} {ρ:Operand→AV} (hρ:∀ x,aG m (ρ x) (a.eval x)) (hnew:(bE P ρ o.op).news=true) (s:Sim B w0 m h w) {v:AV} (st:(bE P ρ o.op).still P v h)
  (hb:∀ b,ko (bE P ρ o.op) v=some b→b < h.n∧m b=none) {next:Act→World→Prop} {Q:Exit→Act→World→Prop}
  (hnext:∀ u m' w',m.le m'→(∀ b,ko (bE P ρ o.op) v≠some b→m' b=m b)→Sim B w0 m' h w'→aG m' v u→next (a.put o.dst u) w'):o.wp P a w next Q:=by
 have go:∀ {x:Sem Value} {u:Value} {w2:World} {b:Nat} {p:Pl},x.run P w= .ok u w2→m b=none→ko (bE P ρ o.op) v=some b→Sim B w0 (m.add b p) h w2→aG (m.add b p) v u→o.upon P a next Q ((do pure (.value (←x)):Sem Next).run P w):=by
  intro x u w2 b p hx hmb hblk hs hv
  have:(do pure (.value (←x)):Sem Next).run P w= .ok (.value u) w2:=by simp[hx]
  rw[this]
  refine hnext u _ w2 (Hz p hmb) (fun c hc=>?_) hs hv
  have:c≠b:=fun e=>hc (e▸hblk)
  simp[BM.add,this]
 cases hop:o.op<;>rw[hop] at hnew st hb go<;>simp only[bE] at hnew st hb go
 case alloc t=>
  unfold Oper.wp execOp;rw[hop]
  split at hnew
  ·rename_i cs hz
   rw[hz] at st hb go
   simp only[AOp.still] at st
   split at st
   ·rename_i b
    obtain⟨st1,st2,st3⟩:=st
    obtain⟨hbn,hmb⟩:=hb b rfl
    obtain⟨i,z,hi,hzz,hr,h1,hl,hs⟩:=oO (m:=m) hz
    refine go (b:=b) (p:=⟨w.heap.size,0,z.cells.size,(h.get b).es⟩) (u:=.pointer (some ⟨w.heap.size,0,none⟩)) (w2:=w.alloc (.cells z.cells t)) (by simp[Instr.alloc,vJ hi hzz,newVar,newRow]) hmb rfl
     (s.Hy hbn hmb st3 z.cells t (by rw[st1,hl,hs]) (by rw[st1];exact hr) h1) ?_
    simp only[aG];exact⟨⟨w.heap.size,0,z.cells.size,(h.get b).es⟩,by simp[BM.add],rfl⟩
   ·exact st.elim
  ·simp[AOp.news] at hnew
 case box t x=>
  unfold Oper.wp execOp;rw[hop]
  simp only[AOp.still] at st
  split at st
  ·rename_i b cs hv
   obtain⟨st1,st2,st3⟩:=st
   obtain⟨hbn,hmb⟩:=hb b rfl
   obtain⟨hr,h1⟩:=Gd (hρ x) hv
   refine go (b:=b) (p:=⟨w.heap.size,0,(a.eval x).cells.size,(h.get b).es⟩) (u:=.pointer (some ⟨w.heap.size,0,none⟩)) (w2:=w.alloc (.cells (a.eval x).cells t)) (by simp[Instr.box,newVar,newRow]) hmb rfl
    (s.Hy hbn hmb st3 (a.eval x).cells t (by rw[st1];simpa using hr.length) (by rw[st1];exact hr) h1) ?_
   simp only[aG];exact⟨⟨w.heap.size,0,(a.eval x).cells.size,(h.get b).es⟩,by simp[BM.add],rfl⟩
  ·exact st.elim
 case buildSlice t n parts=>
  unfold Oper.wp execOp;rw[hop]
  split at hnew
  ·rename_i e hu
   rw[hu] at st hb go
   simp only at st hb go
   split at hnew
   ·rename_i i z hi hz
    rw[hi,hz] at st hb go
    simp only at st hb go
    split at hnew
    ·rename_i ap hap
     rw[hap] at st hb go
     simp only at st hb go
     simp only[AOp.still] at st
     split at st
     ·rename_i b k cs hcs
      obtain⟨rfl,q1,q2,st1,st2,st3⟩:=st
      obtain⟨hbn,hmb⟩:=hb b rfl
      obtain⟨c,r1,r2,r3,r4⟩:=ajI (w:=w) hu hi hz hρ hap hcs q1 q2
      refine go (b:=b) (p:=⟨w.heap.size,0,c.size,(h.get b).es⟩) r4 hmb rfl (s.Hy hbn hmb st3 c e (by rw[st1,q2,r3]) (by rw[st1];exact r1) r2) ?_
      simp only[aG]
      exact⟨⟨w.heap.size,0,c.size,(h.get b).es⟩,⟨w.heap.size,0,none⟩,_,by simp[BM.add],rfl,Nat.le_refl _,by simp[st2,r3],.inr rfl⟩
     ·exact st.elim
    ·simp[AOp.news] at hnew
   ·simp[AOp.news] at hnew
  ·simp[AOp.news] at hnew
 case makeSlice t l c=>
  unfold Oper.wp execOp;rw[hop]
  split at hnew
  ·rename_i e hu
   rw[hu] at st hb go
   simp only at st hb go
   split at hnew
   ·rename_i i z hi hz
    rw[hi,hz] at st hb go
    simp only at st hb go
    split at hnew
    ·simp[AOp.news] at hnew
    ·rename_i hbz
     rw[if_neg hbz] at st hb go
     simp only[AOp.still] at st
     split at st
     ·rename_i b k n c1 e1 e2
      obtain⟨h0,rfl,hroom,rfl,st1,st2,st3⟩:=st
      obtain⟨hbn,hmb⟩:=hb b rfl
      obtain⟨i',z',hi',hz',hr,h1,hl,hs⟩:=oO (m:=m) hz
      rw[hi] at hi';cases hi'
      have r1:=hρ l
      have r2:=hρ c
      rw[e1] at r1
      rw[e2] at r2
      simp only[aG] at r1 r2
      have aoK:(i.bytes:Int) * n≤70368744177664:=by rw[Int.mul_comm];exact hroom
      have h63:n≤9223372036854775807:=by
       have h1b:(1:Int)≤i.bytes:=by omega
       have:n * 1≤n * i.bytes:=Int.mul_le_mul_of_nonneg_left h1b h0
       omega
      have hrun:=run_make (P:=P) w t e i z' hu hi hz' .i64 .i64 n n h0 (Int.le_refl _) (by omega) h63
      rw[←r1] at hrun
      have amR:(Instr.makeSlice t (a.eval l) (a.eval c)).run P w= .ok (.slice (some ⟨w.heap.size,0,none⟩) n.toNat n.toNat) (w.alloc (.cells (madeCells z'.cells (n.toNat * i.size)) e)):=by
       rw[r2,←r1];exact hrun
      have hfl:=AU (m:=m) hr n.toNat
      have ug:(madeCells z'.cells (n.toNat * i.size)).toList=(List.replicate n.toNat z'.cells.toList).flatten:=by
       apply List.ext_getElem?
       intro j
       by_cases hj:j < n.toNat * i.size
       ·have hlt:j < ((List.replicate n.toNat z'.cells.toList).flatten).length:=by simp[hs];exact hj
        rw[List.getElem?_eq_getElem hlt,Array.getElem?_toList]
        exact Bo z'.cells n.toNat i.size hs j _ (List.getElem?_eq_getElem hlt)
       ·rw[List.getElem?_eq_none (by simp[size_madeCells];omega),List.getElem?_eq_none (by simp[hs];omega)]
      refine go (b:=b) (p:=⟨w.heap.size,0,(madeCells z'.cells (n.toNat * i.size)).size,(h.get b).es⟩) amR hmb rfl (s.Hy hbn hmb st3 (madeCells z'.cells (n.toNat * i.size)) e (by rw[st1];simp[size_madeCells,hl]) (by rw[st1,ug];exact hfl) (by
       rw[ug]
       intro x hx
       obtain⟨l',hl1,hl2⟩:=List.mem_flatten.1 hx
       rw[List.eq_of_mem_replicate hl1] at hl2
       exact h1 x hl2)) ?_
      simp only[aG]
      exact⟨⟨w.heap.size,0,(madeCells z'.cells (n.toNat * i.size)).size,(h.get b).es⟩,⟨w.heap.size,0,none⟩,_,by simp[BM.add],rfl,Nat.le_refl _,by simp[st2,size_madeCells],.inr rfl⟩
     ·exact st.elim
   ·simp[AOp.news] at hnew
  ·simp[AOp.news] at hnew
 all_goals exfalso
 case call c=>
  obtain⟨callee,args,argTypes⟩:=c
  cases callee with
  |value f=>
   cases f<;>simp only[nE] at hnew<;>(repeat' split at hnew)<;>simp[AOp.news] at hnew
  |invoke r n=>simp[nE,AOp.news] at hnew
  |builtin b=>
   simp only[nE] at hnew
   (repeat' split at hnew)<;>simp[AOp.news] at hnew
 case makeFunc fn first caps=>cases fn<;>simp only[bE] at hnew<;>(repeat' split at hnew)<;>simp[AOp.news] at hnew
 case slice t x lo hi mx=>cases mx<;>simp only[bE] at hnew<;>(repeat' split at hnew)<;>simp[AOp.news] at hnew
 all_goals(repeat' split at hnew)
 all_goals simp[AOp.news] at hnew
end Go.Ab
end
section
namespace Go.Ab
open Go.RowKit
variable{B:Nat} {w0 w w':World} {m m':BM} {h:AH} {P:Program}
theorem V7 {p q:Nat→Bool}:∀ {l:List Nat} {i:Nat},i∈l→(∀ j,q j=true→p j=true)→p i=true→q i=false→l.countP q < l.countP p
 |[],i,hi,_,_,_=>by cases hi
 |x::xs,i,hi,hq,hp,hn=>by
  have le:∀ l:List Nat,l.countP q≤l.countP p:=fun l=>List.countP_mono_left fun j _ hj=>hq j hj
  rw[List.countP_cons,List.countP_cons]
  rcases List.mem_cons.1 hi with e|e
  ·subst e
   have:=le xs
   simp[hp,hn];omega
  ·have ih:=V7 e hq hp hn
   by_cases hx:q x=true
   ·simp[hx,hq x hx];exact ih
   ·simp only[hx,Bool.false_eq_true,if_false];omega
theorem ajJ {ao:AOp} {v:AV} {b:Nat} (hb:ko ao v=some b):ao.news=true:=by
 cases ao<;>simp[ko] at hb<;>rfl
theorem akk {ao:AOp} (hn:ao.news=false) {v:AV} (s:ao.still P v h):ao.go P h fun v' h'=>v'=v∧h'=h:=by
 cases ao<;>simp only[AOp.news,Bool.true_eq_false] at hn<;>exact s
def Closed (ops:Array Oper) (L:Nat→Prop):Prop:=∀ k o,ops[k]? =some o→L k→∀ j∈nD o,L j
theorem U2 {ops:Array Oper} {L:Nat→Prop} (hc:Closed ops L):∀ (os:List Oper) (acc:List (List Nat)) (dn:List Oper),ops.toList=dn++os→acc.length=dn.length→
  (∀ k x,x∈acc.getD k []→(∀ o,ops[k]? =some o→∀ j∈nD o,L j)→L x)→
  ∀ k x,x∈(MS os acc).getD k []→(∀ o,ops[k]? =some o→∀ j∈nD o,L j)→L x
 |[],acc,dn,_,_,ih=>ih
 |o::os,acc,dn,he,hl,ih=>by
  refine U2 hc os _ (dn++[o]) (by simp[he]) (by simp[hl]) ?_
  intro k x hx hp
  have hk:ops[dn.length]? =some o:=by
   rw[←Array.getElem?_toList,he];simp
  by_cases h1:k < acc.length
  ·refine ih k x ?_ hp
   simpa[List.getD_eq_getElem?_getD,List.getElem?_append_left h1] using hx
  ·by_cases h2:k=acc.length
   ·subst h2
    simp only[List.getD_eq_getElem?_getD,List.getElem?_append_right (Nat.le_refl _),Nat.sub_self,List.getElem?_cons_zero,Option.getD_some,List.mem_eraseDups,List.mem_append,List.mem_flatMap] at hx
    have hp':=hp o (by rw[hl];exact hk)
    rcases hx with hx|⟨j,hj,hx⟩
    ·exact hp' x hx
    ·exact ih j x (by simpa[List.getD_eq_getElem?_getD] using hx) fun o' ho' j' hj'=>hc j o' ho' (hp' j hj) j' hj'
   ·have:(acc++[(nD o++(nD o).flatMap fun j=>acc.getD j []).eraseDups])[k]? =none:=by
     rw[List.getElem?_eq_none];simp;omega
    rw[List.getD_eq_getElem?_getD,this] at hx
    simp at hx
theorem akb {ops:Array Oper} {L:Nat→Prop} (hc:Closed ops L) {i x:Nat} (hx:x∈(uH ops.toList).getD i []) (hp:∀ o,ops[i]? =some o→∀ j∈nD o,L j):L x:=
 U2 hc ops.toList [] [] (by simp) rfl (by intro k x hx;simp at hx) i x hx hp
structure Ic (ops:Array Oper) (A:List (List Nat)) (pre:List Nat) (i:Nat) (cs rest:List Nat) (o:Oper):Prop where
 op:ops[i]? =some o
 new:i ∉ pre
 amD:∀ j∈nD o,j∈pre
 old:∀ x∈pre,∃ ox,ops[x]? =some ox∧(lK ox (o.looksAt ops)=true→x∈A.getD i [])∧
  (floats o=true→lK o (ox.looksAt ops)=false∧(ox.dst=none∨ox.dst≠o.dst))∧
  (floats o=false→x∈A.getD i []∨(floats ox=true∧lK o (ox.looksAt ops)=false∧(ox.dst=none∨ox.dst≠o.dst)∧(hangs ox=true→x∈cs)))
 fl:floats o=true→cs=[]∧(∃ d,o.dst=some d)∧lK o (o.looksAt ops)=false
 ef:floats o=false→∀ y∈rest,i∈A.getD y []
theorem aiH {ops:Array Oper} {A:List (List Nat)} {pre:List Nat} {i:Nat} {cs rest:List Nat} (hs:MG ops A pre i cs rest=true):∃ o,Ic ops A pre i cs rest o:=by
 unfold MG at hs
 split at hs
 ·cases hs
 ·rename_i o ho
  simp only[Bool.and_eq_true,Bool.not_eq_true',List.all_eq_true,List.contains_eq_mem,decide_eq_true_eq,decide_eq_false_iff_not] at hs
  obtain⟨⟨⟨h1,h2⟩,h3⟩,h4⟩:=hs
  refine⟨o,ho,h1,h2,?_,?_,?_⟩
  ·intro x hx
   have:=h3 x hx
   split at this
   ·cases this
   ·rename_i ox hox
    simp only[Bool.and_eq_true,Bool.or_eq_true,Bool.not_eq_true',decide_eq_true_eq] at this
    obtain⟨t1,t2⟩:=this
    refine⟨ox,hox,fun hd=>?_,fun hf=>?_,fun hf=>?_⟩
    ·rcases t1 with t1|t1
     ·rw[hd] at t1;cases t1
     ·exact t1
    ·simp only[hf,if_true,Bool.and_eq_true,Bool.not_eq_true',Bool.or_eq_true,Option.isNone_iff_eq_none,bne_iff_ne] at t2
     exact t2
    ·simp only[hf,Bool.false_eq_true,if_false,Bool.or_eq_true,Bool.and_eq_true,Bool.not_eq_true',Option.isNone_iff_eq_none,bne_iff_ne,decide_eq_true_eq] at t2
     rcases t2 with t2|⟨⟨⟨t2,t3⟩,t4⟩,t5⟩
     ·exact .inl t2
     ·refine .inr ⟨t2,t3,t4,fun hh=>?_⟩
      rcases t5 with t5|t5
      ·rw[hh] at t5;cases t5
      ·exact t5
  ·intro hf
   simp only[hf,if_true,Bool.and_eq_true,beq_iff_eq,List.length_eq_zero_iff,Bool.not_eq_true'] at h4
   exact⟨h4.1.1,Option.isSome_iff_exists.1 h4.1.2,h4.2⟩
  ·intro hf
   simp only[hf,Bool.false_eq_true,if_false,List.all_eq_true,decide_eq_true_eq] at h4
   exact h4
theorem xI {ops:Array Oper} {A:List (List Nat)} {pre:List Nat} {i:Nat} {cs:List Nat} {rest:List (Nat × List Nat)} (hs:tC ops A pre ((i,cs)::rest)=true):
  (∃ o,Ic ops A pre i cs (rest.map (·.1)) o)∧tC ops A (pre++[i]) rest=true:=by
 simp only[tC,Bool.and_eq_true] at hs
 exact⟨aiH hs.1,hs.2⟩
theorem UH {ops:Array Oper} {A:List (List Nat)} {L:Nat→Prop}:∀ (rest:List (Nat × List Nat)) (pre:List Nat),tC ops A pre rest=true→(∀ x∈pre,L x)→(∃ i∈rest.map (·.1),¬ L i)→
  ∃ i o,ops[i]? =some o∧¬ L i∧∀ j∈nD o,L j
 |[],pre,_,_,⟨i,hi,_⟩=>by simp at hi
 |(k,cs)::rest,pre,hs,hp,⟨i,hi,hn⟩=>by
  obtain⟨⟨o,so⟩,hs'⟩:=xI hs
  by_cases hk:L k
  ·refine UH rest (pre++[k]) hs' ?_ ?_
   ·intro x hx
    rcases List.mem_append.1 hx with e|e
    ·exact hp x e
    ·simp at e;rw[e];exact hk
   ·rcases List.mem_cons.1 hi with e|e
    ·exact absurd (e▸hk) hn
    ·exact⟨i,e,hn⟩
  ·exact⟨k,o,so.op,hk,fun j hj=>hp j (so.amD j hj)⟩
def iP (ops:Array Oper) (env:List AV) (o:Oper):Option Bool:=
 match o.guard with
 |none=>some true
 |some (j,wt)=>match gvE ops env j with
  | .bool b=>some (b == wt)
  | .tup []=>some false
  |_=>none
def PB (P:Program) (ops:Array Oper) (env:List AV) (o:Oper) (b:Nat):Prop:=
 iP ops env o=some true∧∃ d,o.dst=some d∧ko (bE P (evE env) o.op) (env.getD d .un)=some b
def I5 (P:Program) (ops:Array Oper) (env:List AV) (h:AH) (m:BM) (n0:Nat) (o:Oper):Prop:=
 floats o=true∧(∃ d,o.dst=some d∧d < env.length∧
  ((iP ops env o=some true∧(bE P (evE env) o.op).still P (env.getD d .un) h)∨(iP ops env o=some false∧env.getD d .un= .tup [])))∧
 ∀ b,PB P ops env o b→b < h.n∧n0≤b∧m b=none
theorem WE {ops:Array Oper} {o:Oper} {t:Nat} (ht: .tmp t∈o.op.operands):t∈o.looksAt ops:=
 List.mem_append_left _ (List.mem_filterMap.2 ⟨.tmp t,by simpa using ht,rfl⟩)
theorem UW {ops:Array Oper} {o oj:Oper} {j t:Nat} {wt:Bool} (hg:o.guard=some (j,wt)) (hj:ops[j]? =some oj) (hd:oj.dst=some t):t∈o.looksAt ops:=
 List.mem_append_right _ (by simp[hg,hj,hd])
theorem aj5 {env env':List AV} {x:Operand} (hh:∀ t,x= .tmp t→env'[t]? =env[t]?):evE env' x=evE env x:=by
 cases x with
 |tmp t=>simp only[evE,List.getD_eq_getElem?_getD,hh t rfl]
 |_=>rfl
theorem A8 {ops:Array Oper} {env env':List AV} {o:Oper} (hh:∀ t,t∈o.looksAt ops→env'[t]? =env[t]?):bE P (evE env') o.op=bE P (evE env) o.op:=
 U8 o.op fun x hx=>aj5 fun t e=>hh t (WE (e▸hx))
theorem AX {ops:Array Oper} {env env':List AV} {o:Oper} (hh:∀ t,t∈o.looksAt ops→env'[t]? =env[t]?):iP ops env' o=iP ops env o:=by
 unfold iP
 cases hg:o.guard with
 |none=>rfl
 |some jw=>
  obtain⟨j,wt⟩:=jw
  have:gvE ops env' j=gvE ops env j:=by
   unfold gvE
   cases ho:ops[j]? with
   |none=>rfl
   |some oj=>
    cases hd:oj.dst with
    |none=>simp only[hd]
    |some t=>simp only[hd,List.getD_eq_getElem?_getD,hh t (UW hg ho hd)]
  simp only[this]
theorem vR {ops:Array Oper} {env env':List AV} {o:Oper} {b:Nat} (hh:∀ t,t∈o.looksAt ops→env'[t]? =env[t]?) (hd:∀ d,o.dst=some d→env'[d]? =env[d]?) (p:PB P ops env' o b):PB P ops env o b:=by
 obtain⟨h1,d,h2,h3⟩:=p
 refine⟨(AX hh)▸h1,d,h2,?_⟩
 rw[A8 hh,List.getD_eq_getElem?_getD,hd d h2,←List.getD_eq_getElem?_getD] at h3
 exact h3
theorem Hq {env:List AV} {dst:Option Tmp} {t:Nat} (v:AV) (hne:dst≠some t):(fG env dst v)[t]? =env[t]? :=by
 cases dst with
 |none=>rfl
 |some d=>simp only[fG];rw[List.getElem?_set_ne (fun e=>hne (by rw[e]))]
theorem K7 (env:List AV) (dst:Option Tmp) (v:AV):(fG env dst v).length=env.length:=by cases dst<;>simp[fG]
theorem LH {o:Oper} {l:List Nat} (hd:lK o l=false) {t:Nat} (ht:t∈l):o.dst≠some t:=by
 intro e
 simp[lK,e,ht] at hd
theorem WT {o:Oper} {l:List Nat} {t:Nat} (ht:t∈l) (hd:o.dst=some t):lK o l=true:=by simp[lK,hd,ht]
theorem ai3 {ops : Array Oper} {o : Oper} (hf : floats o = true) {env : List AV} {k : List AV → Prog} {Q : Nat → List AV → AH → Prop} (g : (tK P ops o env k).awp P h Q) :
    ∃ v h', (k (fG env o.dst v)).awp P h' Q ∧
      ((iP ops env o = some true ∧ (bE P (evE env) o.op).still P v h' ∧ (((∀ b, ko (bE P (evE env) o.op) v ≠ some b) ∧ h' = h) ∨ (ko (bE P (evE env) o.op) v = some h.n ∧ ∃ k : Blk, k.st = 0 ∧ h' = h.push k))) ∨
       (iP ops env o = some false ∧ v = .tup [] ∧ h' = h)) := by
  have run : iP ops env o = some true → (bE P (evE env) o.op).go P h (fun v h' => (k (fG env o.dst v)).awp P h' Q) → ∃ v h', (k (fG env o.dst v)).awp P h' Q ∧
      ((iP ops env o = some true ∧ (bE P (evE env) o.op).still P v h' ∧ (((∀ b, ko (bE P (evE env) o.op) v ≠ some b) ∧ h' = h) ∨ (ko (bE P (evE env) o.op) v = some h.n ∧ ∃ k : Blk, k.st = 0 ∧ h' = h.push k))) ∨
       (iP ops env o = some false ∧ v = .tup [] ∧ h' = h)) := by
    intro hw g
    obtain ⟨v, h', h1, h2, h3⟩ := go_still (Nb hf) g
    refine ⟨v, h', h1, .inl ⟨hw, h2, ?_⟩⟩
    rcases h3 with ⟨hn, e⟩ | h3
    · exact .inl ⟨fun b hb => (by rw [ajJ hb] at hn; cases hn), e⟩
    · exact .inr h3
  unfold tK at g
  cases hg : o.guard with
  | none =>
    have hw : iP ops env o = some true := by simp [iP, hg]
    rw [hg] at g
    simp only at g
    split at g
    · rename_i x hop
      exact run hw (by rw [hop]; simpa [bE, AOp.go] using g)
    · rename_i x hop
      exact run hw (by rw [hop]; simpa [bE, AOp.go] using g)
    · exact run hw g
  | some jw =>
    obtain ⟨j, wt⟩ := jw
    rw [hg] at g
    simp only at g
    generalize hc : gvE ops env j = c at g
    cases c with
    | bool b =>
      simp only [Prog.awp] at g
      split at g
      · rename_i e
        exact run (by simp [iP, hg, hc, e]) g
      · rename_i e
        exact ⟨_, h, g, .inr ⟨by simp [iP, hg, hc, e], rfl, rfl⟩⟩
    | tup vs =>
      cases vs with
      | nil => exact ⟨_, h, g, .inr ⟨by simp [iP, hg, hc], rfl, rfl⟩⟩
      | cons x xs => exact g.elim
    | _ => exact g.elim
theorem Li {ops:Array Oper} {env:List AV} {Q:Nat→List AV→AH→Prop} {p:Prog}:∀ {cs:List Nat},(wD P ops env cs p).awp P h Q→
  p.awp P h Q∧∀ i∈cs,∃ o d,ops[i]? =some o∧o.dst=some d∧(iP ops env o=some true→(bE P (evE env) o.op).still P (env.getD d .un) h)
 |[],g=>⟨g,by intro i hi;cases hi⟩
 |i::cs,g=>by
  unfold wD at g
  split at g
  ·rename_i o ho
   split at g
   ·rename_i d hd
    split at g
    ·rename_i hg
     simp only[Prog.awp] at g
     obtain⟨g1,g2⟩:=Li g.2
     refine⟨g1,fun x hx=>?_⟩
     rcases List.mem_cons.1 hx with e|e
     ·subst e;exact⟨o,d,ho,hd,fun _=>g.1⟩
     ·exact g2 x e
    ·rename_i j wt hg
     simp only[Prog.awp] at g
     obtain⟨g1,g2⟩:=Li g.2
     refine⟨g1,fun x hx=>?_⟩
     rcases List.mem_cons.1 hx with e|e
     ·subst e
      refine⟨o,d,ho,hd,fun hw=>?_⟩
      have g0:=g.1
      unfold iP at hw
      rw[hg] at hw
      simp only at hw
      split at g0
      ·rename_i b hb
       rw[hb] at hw
       simp only[Option.some.injEq,beq_iff_eq] at hw
       rw[if_pos hw] at g0;exact g0
      ·rename_i hb
       rw[hb] at hw;simp at hw
      ·exact g0.elim
     ·exact g2 x e
   ·exact g.elim
  ·exact g.elim
end Go.Ab
end
section
namespace Go.Ab
open Go.RowKit
variable{B:Nat} {w0 w w':World} {m m':BM} {h:AH} {P:Program}
def Late (ops:Array Oper) (pre:List Nat) (listed:Array Bool) (x:Nat) (o:Oper):Prop:=x∈pre∧listed.getD x false=false∧ops[x]? =some o
def Wait (ops:Array Oper) (pre:List Nat) (listed:Array Bool) (t:Nat):Prop:=∃ x o,Late ops pre listed x o∧o.dst=some t
structure DI (P:Program) (ops:Array Oper) (B:Nat) (w0:World) (n0:Nat) (m0:BM) (a0:Act) (Q:Nat→List AV→AH→Prop) (kn:List AV→Prog)
  (pre:List Nat) (rest:List (Nat × List Nat)) (listed:Array Bool) (env:List AV) (h:AH) (m:BM) (a:Act) (w:World):Prop where
 ok:tC ops (uH ops.toList) pre rest=true
 all:∀ i,i < ops.size→i∈pre∨i∈rest.map (·.1)
 pops:∀ x∈pre,∃ o,ops[x]? =some o
 pair:∀ x y ox oy,x∈pre→y∈pre→ops[x]? =some ox→ops[y]? =some oy→floats ox=true→floats oy=true→
  (lK ox (oy.looksAt ops)=true→x∈(uH ops.toList).getD y [])∧(x≠y→∀ d,ox.dst=some d→oy.dst≠some d)
 self:∀ x ox,x∈pre→ops[x]? =some ox→floats ox=true→lK ox (ox.looksAt ops)=false
 sub:∀ i,listed.getD i false=true→i∈pre
 eff:∀ i o,i∈pre→ops[i]? =some o→floats o=false→listed.getD i false=true
 closed:Closed ops fun i=>listed.getD i false=true
 sz:listed.size=ops.size
 sim:Sim B w0 m h w
 grow:Grow n0 m0 h.n m
 dfr:a.defers=[]
 kept:Kept (j3 ops.toList) a0 a
 len:env.length=a.tmps.size
 rel:∀ t,¬ Wait ops pre listed t→∀ x,env[t]? =some x→∃ v,a.tmps[t]? =some v∧aG m x v
 pend:∀ x o,Late ops pre listed x o→I5 P ops env h m n0 o
 dist:∀ x y ox oy,x≠y→Late ops pre listed x ox→Late ops pre listed y oy→∀ b,PB P ops env ox b→¬ PB P ops env oy b
 go:(qz P ops rest env kn).awp P h Q
variable{ops:Array Oper} {n0:Nat} {m0:BM} {a0:Act} {Q:Nat→List AV→AH→Prop} {kn:List AV→Prog} {pre:List Nat} {rest:List (Nat × List Nat)} {listed:Array Bool} {env:List AV} {a:Act}
theorem I5.look {n0:Nat} {env env':List AV} {h h':AH} {m m':BM} {o:Oper} (p:I5 P ops env h m n0 o) (hh:∀ t,t∈o.looksAt ops→env'[t]? =env[t]?) (hd:∀ d,o.dst=some d→env'[d]? =env[d]?) (hl:env'.length=env.length)
  (hs:∀ d,o.dst=some d→iP ops env o=some true→(∀ b,ko (bE P (evE env) o.op) (env.getD d .un)=some b→b < h.n)→(bE P (evE env) o.op).still P (env.getD d .un) h→(bE P (evE env) o.op).still P (env.getD d .un) h')
  (hn:h.n≤h'.n) (hm:∀ b,b < h.n→m' b=m b):I5 P ops env' h' m' n0 o:=by
 obtain⟨hf,⟨d,h1,h2,h3⟩,h4⟩:=p
 have e:env'.getD d .un=env.getD d .un:=by rw[List.getD_eq_getElem?_getD,hd d h1,←List.getD_eq_getElem?_getD]
 refine⟨hf,⟨d,h1,Nat.lt_of_lt_of_eq h2 hl.symm,?_⟩,fun b hb=>?_⟩
 ·rw[AX hh,A8 hh,e]
  rcases h3 with⟨h3,h5⟩|h3
  ·exact .inl ⟨h3,hs d h1 h3 (fun b hb=>(h4 b ⟨h3,d,h1,hb⟩).1) h5⟩
  ·exact .inr h3
 ·obtain⟨g1,g2,g3⟩:=h4 b (vR hh hd hb)
  exact⟨by omega,g2,by rw[hm b g1];exact g3⟩
theorem DI.FZ (s:DI P ops B w0 n0 m0 a0 Q kn pre rest listed env h m a w) {i x:Nat} (hr:i∈Region.ready .any ops listed) (hx:x∈(uH ops.toList).getD i []):listed.getD x false=true:=by
 obtain⟨_,o,ho,hall⟩:=mem_ready.1 hr
 refine akb s.closed hx fun o' ho' j hj=>?_
 rw[ho] at ho';cases ho'
 obtain⟨e,he,rfl⟩:=List.mem_map.1 hj
 obtain⟨he,hb⟩:=List.mem_filter.1 he
 exact hall e (Array.mem_toList_iff.1 he) hb
theorem DI.adv {i:Nat} {cs:List Nat} (s:DI P ops B w0 n0 m0 a0 Q kn pre ((i,cs)::rest) listed env h m a w) {o:Oper} (so:Ic ops (uH ops.toList) pre i cs (rest.map (·.1)) o) (hf:floats o=true):
  ∃ env' h',DI P ops B w0 n0 m0 a0 Q kn (pre++[i]) rest listed env' h' m a w:=by
 obtain⟨_,hok⟩:=xI s.ok
 obtain⟨rfl,⟨d,hd⟩,hself⟩:=so.fl hf
 have g:=s.go
 unfold qz at g
 rw[so.op] at g
 simp only[hd] at g
 split at g
 case isFalse=>exact g.elim
 rename_i hlt
 simp only[decide_eq_true_eq] at hlt
 obtain⟨v,h',g1,g2⟩:=ai3 hf g
 rw[hd] at g1
 simp only[wD] at g1
 have hun:listed.getD i false=false:=by
  cases hb:listed.getD i false
  ·rfl
  ·exact absurd (s.sub i hb) so.new
 have hat:∀ t,t≠d→(fG env (some d) v)[t]? =env[t]? :=fun t ht=>Hq v (fun e=>ht (by cases e;rfl))
 have IU:∀ t,t∈o.looksAt ops→(fG env (some d) v)[t]? =env[t]? :=fun t ht=>hat t (fun e=>LH hself ht (e▸hd))
 have hgd:(fG env (some d) v).getD d .un=v:=by simp[fG,List.getD_eq_getElem?_getD,hlt]
 have hl:(fG env (some d) v).length=env.length:=K7 _ _ _
 have hn:h.n≤h'.n:=by
  rcases g2 with⟨_,_,⟨_,e⟩|⟨_,k,_,e⟩⟩|⟨_,_,e⟩<;>subst e<;>simp[AH.push]
 have anK:Sim B w0 m h' w:=by
  rcases g2 with⟨_,_,⟨_,e⟩|⟨_,k,hk,e⟩⟩|⟨_,_,e⟩<;>subst e
  ·exact s.sim
  ·exact s.sim.amC k hk
  ·exact s.sim
 have ze:∀ x ox,Late ops (pre++[i]) listed x ox→(x≠i∧Late ops pre listed x ox)∨(x=i∧ox=o):=by
  rintro x ox ⟨h1,h2,h3⟩
  rcases List.mem_append.1 h1 with e|e
  ·exact .inl ⟨fun e'=>so.new (e'▸e),e,h2,h3⟩
  ·simp at e;subst e
   rw[so.op] at h3;cases h3;exact .inr ⟨rfl,rfl⟩
 have hold:∀ x ox,Late ops pre listed x ox→floats ox=true∧(∀ t,t∈ox.looksAt ops→(fG env (some d) v)[t]? =env[t]?)∧(∀ d',ox.dst=some d'→(fG env (some d) v)[d']? =env[d']?):=by
  rintro x ox hx
  obtain⟨ox',ho',_,q,_⟩:=so.old x hx.1
  rw[hx.2.2] at ho';cases ho'
  obtain⟨q1,q2⟩:=q hf
  refine⟨(s.pend x ox hx).1,fun t ht=>hat t fun e=>LH q1 ht (e▸hd),fun d' hd'=>hat d' fun e=>?_⟩
  rcases q2 with q2|q2
  ·rw[hd'] at q2;cases q2
  ·exact q2 (by rw[hd',hd,e])
 have hpb:∀ b,PB P ops (fG env (some d) v) o b→b=h.n∧h'.n=h.n+1:=by
  rintro b ⟨p1,d',p2,p3⟩
  rw[hd] at p2;cases p2
  rw[A8 IU,hgd] at p3
  rw[AX IU] at p1
  rcases g2 with⟨_,_,⟨q,e⟩|⟨q,k,_,e⟩⟩|⟨q,_,_⟩
  ·exact absurd p3 (q b)
  ·rw[q] at p3;cases p3;subst e;exact⟨rfl,rfl⟩
  ·rw[q] at p1;cases p1
 refine⟨fG env (some d) v,h',hok,?_,?_,?_,?_,fun j hj=>List.mem_append_left _ (s.sub j hj),?_,s.closed,s.sz,anK,⟨Nat.le_trans s.grow.1 hn,s.grow.2⟩,s.dfr,s.kept,by rw[hl];exact s.len,?_,?_,?_,g1⟩
 ·intro j hj
  rcases s.all j hj with e|e
  ·exact .inl (List.mem_append_left _ e)
  ·rcases List.mem_cons.1 e with e|e
   ·exact .inl (by simp[e])
   ·exact .inr e
 ·intro x hx
  rcases List.mem_append.1 hx with e|e
  ·exact s.pops x e
  ·simp at e;subst e;exact⟨o,so.op⟩
 ·intro x y ox oy hx hy hox hoy fx fy
  rcases List.mem_append.1 hx with ex|ex<;>rcases List.mem_append.1 hy with ey|ey
  ·exact s.pair x y ox oy ex ey hox hoy fx fy
  ·simp at ey;subst ey
   rw[so.op] at hoy;cases hoy
   obtain⟨ox',ho',q1,q2,_⟩:=so.old x ex
   rw[hox] at ho';cases ho'
   refine⟨q1,fun _ d1 hd1 hd2=>?_⟩
   rcases(q2 hf).2 with q|q
   ·rw[hd1] at q;cases q
   ·exact q (by rw[hd1,hd2])
  ·simp at ex;subst ex
   rw[so.op] at hox;cases hox
   obtain⟨oy',ho',q1,q2,_⟩:=so.old y ey
   rw[hoy] at ho';cases ho'
   refine⟨fun q=>?_,fun _ d1 hd1 hd2=>?_⟩
   ·rw[(q2 hf).1] at q;cases q
   ·rcases(q2 hf).2 with q|q
    ·rw[hd2] at q;cases q
    ·exact q (by rw[hd1,hd2])
  ·simp at ex ey;subst ex;subst ey
   rw[so.op] at hox hoy;cases hox;cases hoy
   exact⟨fun q=>(by rw[hself] at q;cases q),fun q=>absurd rfl q⟩
 ·intro x ox hx hox fx
  rcases List.mem_append.1 hx with e|e
  ·exact s.self x ox e hox fx
  ·simp at e;subst e;rw[so.op] at hox;cases hox;exact hself
 ·intro x ox hx hox fx
  rcases List.mem_append.1 hx with e|e
  ·exact s.eff x ox e hox fx
  ·simp at e;subst e;rw[so.op] at hox;cases hox;rw[hf] at fx;cases fx
 ·intro t ht x hx
  have hne:t≠d:=fun e=>ht ⟨i,o,⟨by simp,hun,so.op⟩,by rw[hd,e]⟩
  rw[hat t hne] at hx
  exact s.rel t (fun⟨y,oy,⟨h1,h2⟩,h3⟩=>ht ⟨y,oy,⟨List.mem_append_left _ h1,h2⟩,h3⟩) x hx
 ·intro x ox hx
  rcases ze x ox hx with⟨_,hx⟩|⟨rfl,rfl⟩
  ·obtain⟨q0,q1,q2⟩:=hold x ox hx
   refine(s.pend x ox hx).look q1 q2 hl ?_ hn fun b hb=>rfl
   intro d' hd' _ hb hst
   rcases g2 with⟨_,_,⟨_,e⟩|⟨_,k,hk,e⟩⟩|⟨_,_,e⟩<;>subst e
   ·exact hst
   ·exact ai5 (Nb q0) k s.sim.fresh hb hst
   ·exact hst
  ·refine⟨hf,⟨d,hd,Nat.lt_of_lt_of_eq hlt hl.symm,?_⟩,fun b hb=>?_⟩
   ·rw[AX IU,A8 IU,hgd]
    rcases g2 with⟨q1,q2,_⟩|⟨q1,q2,_⟩
    ·exact .inl ⟨q1,q2⟩
    ·exact .inr ⟨q1,q2⟩
   ·obtain⟨rfl,e⟩:=hpb b hb
    refine⟨by omega,s.grow.1,?_⟩
    cases hm:m h.n with
    |none=>rfl
    |some p=>have:=s.sim.dom _ _ hm;omega
 ·intro x y ox oy hne hx hy b hbx hby
  rcases ze x ox hx with⟨_,hx'⟩|⟨ex,eo⟩<;>rcases ze y oy hy with⟨_,hy'⟩|⟨ey,eo'⟩
  ·obtain⟨_,q1,q2⟩:=hold x ox hx'
   obtain⟨_,r1,r2⟩:=hold y oy hy'
   exact s.dist x y ox oy hne hx' hy' b (vR q1 q2 hbx) (vR r1 r2 hby)
  ·subst ey;subst eo'
   obtain⟨_,q1,q2⟩:=hold x ox hx'
   have:=((s.pend x ox hx').2.2 b (vR q1 q2 hbx)).1
   have:=(hpb b hby).1
   omega
  ·subst ex;subst eo
   obtain⟨_,q1,q2⟩:=hold y oy hy'
   have:=((s.pend y oy hy').2.2 b (vR q1 q2 hby)).1
   have:=(hpb b hbx).1
   omega
  ·exact hne (ex.trans ey.symm)
end Go.Ab
end
section
namespace Go.Ab
open Go.RowKit
variable{B:Nat} {w0 w w':World} {m m':BM} {h:AH} {P:Program}
variable{ops:Array Oper} {n0:Nat} {m0:BM} {a0:Act} {Q:Nat→List AV→AH→Prop} {kn:List AV→Prog} {pre:List Nat} {rest:List (Nat × List Nat)} {listed:Array Bool} {env:List AV} {a:Act}
theorem Lx {o:Oper} {d:Nat} (hd:o.dst=some d):∀ {l:List Oper},o∈l→d∈j3 l
 |[],hm=>by cases hm
 |x::l,hm=>by
  unfold j3
  rcases List.mem_cons.1 hm with e|e
  ·subst e;simp[hd]
  ·have:=Lx hd e
   split
   ·exact List.mem_cons_of_mem _ this
   ·exact this
open Classical in
noncomputable def DI.rho (ops:Array Oper) (pre:List Nat) (listed:Array Bool) (env:List AV) (x:Operand):AV:=
 if ∃ t,x= .tmp t∧Wait ops pre listed t then .un else evE env x
theorem DI.Xr (s:DI P ops B w0 n0 m0 a0 Q kn pre rest listed env h m a w) (x:Operand):aG m (DI.rho ops pre listed env x) (a.eval x):=by
 unfold DI.rho
 split
 ·exact qy _
 ·rename_i hx
  cases x with
  |tmp t=>
   have ht: ¬ Wait ops pre listed t:=fun h=>hx ⟨t,rfl,h⟩
   simp only[evE,Act.eval,List.getD_eq_getElem?_getD]
   cases he:env[t]? with
   |none=>exact qy _
   |some y=>
    obtain⟨v,h1,h2⟩:=s.rel t ht y he
    simpa[h1] using h2
  |const v=>exact U6 v
  |global g=>exact qy _
  |func f=>simp only[evE,Act.eval,aG];exact⟨[],aI.nil,rfl⟩
theorem DI.Hr {o:Oper} (hl:∀ t,t∈o.looksAt ops→¬ Wait ops pre listed t):bE P (DI.rho ops pre listed env) o.op=bE P (evE env) o.op:=
 U8 o.op fun x hx=>by
  unfold DI.rho
  rw[if_neg]
  rintro⟨t,rfl,hw⟩
  exact hl t (WE hx) hw
theorem DI.Ym (s:DI P ops B w0 n0 m0 a0 Q kn pre rest listed env h m a w) {o:Oper} (hl:∀ t,t∈o.looksAt ops→¬ Wait ops pre listed t) (j:Nat) (wt:Bool) (hg:o.guard=some (j,wt)):
  (∀ b,gvE ops env j= .bool b→yielded ops a.tmps j=some b)∧(gvE ops env j= .tup []→yielded ops a.tmps j=none):=
 VU fun t oj hj hd=>⟨s.rel t (hl t (UW hg hj hd)),fun he=>by
  have:=List.getElem?_eq_none_iff.1 he
  exact Array.getElem?_eq_none (by have:=s.len;omega)⟩
theorem aky {o:Oper} (hf:floats o=true) {a:Act} {ρ:Operand→AV} (hρ:∀ x,aG m (ρ x) (a.eval x)) (s:Sim B w0 m h w) {v:AV} (st:(bE P ρ o.op).still P v h)
  (hb:∀ b,ko (bE P ρ o.op) v=some b→b < h.n∧m b=none) {next:Act→World→Prop} {Q:Exit→Act→World→Prop}
  (hnext:∀ u m' w',m.le m'→(∀ b,ko (bE P ρ o.op) v≠some b→m' b=m b)→Sim B w0 m' h w'→aG m' v u→next (a.put o.dst u) w'):o.wp P a w next Q:=by
 cases hn:(bE P ρ o.op).news with
 |true=>exact akx hρ hn s st hb hnext
 |false=>
  refine WC hρ s (akk hn st) ?_
  rintro u av m' h' w' g1 g2 g3 ⟨rfl,rfl⟩
  exact hnext u m' w' (g1.le s) (fun b _=>by
   by_cases e:b < h'.n
   ·exact g1.2 b e
   ·cases h1:m' b with
    |some p=>exact absurd (g2.dom b p h1) e
    |none=>cases h2:m b with
     |some p=>exact absurd (s.dom b p h2) e
     |none=>rfl) g2 g3
theorem DI.wanted (s:DI P ops B w0 n0 m0 a0 Q kn pre rest listed env h m a w) {o:Oper} (hl:∀ t,t∈o.looksAt ops→¬ Wait ops pre listed t) {b:Bool} (hw:iP ops env o=some b):Region.wanted o (yielded ops a.tmps)=b:=by
 unfold iP at hw
 unfold Region.wanted
 cases hg:o.guard with
 |none=>rw[hg] at hw;simp at hw;exact hw▸rfl
 |some jw=>
  obtain⟨j,wt⟩:=jw
  rw[hg] at hw
  simp only at hw ⊢
  obtain⟨h1,h2⟩:=s.Ym hl j wt hg
  split at hw
  ·rename_i c hc
   rw[h1 c hc]
   simp only[Option.some.injEq] at hw
   subst hw
   cases c<;>cases wt<;>rfl
  ·rename_i hc
   rw[h2 hc]
   simp only[Option.some.injEq] at hw
   subst hw
   cases wt<;>rfl
  ·cases hw
theorem Aq {i:Nat} (hi:i < listed.size) (d:Bool):(listed.setIfInBounds i true).getD i d=true:=by simp[hi]
theorem DI.replay (s:DI P ops B w0 n0 m0 a0 Q kn pre rest listed env h m a w) {i:Nat} (hp:i∈pre) (hr:i∈Region.ready .any ops listed) {Qx:Exit→Act→World→Prop}:
  wpOp P ops Qx i (fun a' w'=>∃ m',DI P ops B w0 n0 m0 a0 Q kn pre rest (listed.setIfInBounds i true) env h m' a' w') a w:=by
 obtain⟨hun,o,ho,hall⟩:=mem_ready.1 hr
 have hisz:i < ops.size:=(Array.getElem?_eq_some_iff.1 ho).1
 have hil:i < listed.size:=by rw[s.sz];exact hisz
 have hun':listed.getD i false=false:=by
  rw[Array.getD_eq_getD_getElem?] at hun ⊢
  simpa[hil] using hun
 have hf:floats o=true:=by
  cases hb:floats o
  ·have:=s.eff i o hp ho hb;rw[this] at hun';cases hun'
  ·rfl
 have ze:Late ops pre listed i o:=⟨hp,hun',ho⟩
 obtain⟨_,⟨d,hd,hdl,hv⟩,hblk⟩:=s.pend i o ze
 have hl:∀ t,t∈o.looksAt ops→¬ Wait ops pre listed t:=by
  rintro t ht ⟨x,ox,hx,hxd⟩
  have:=(s.pair x i ox o hx.1 hp hx.2.2 ho (s.pend x ox hx).1 hf).1 (WT ht hxd)
  have:=s.FZ hr this
  rw[hx.2.1] at this;cases this
 have done:∀ u m' w',m.le m'→(∀ b,¬ PB P ops env o b→m' b=m b)→Sim B w0 m' h w'→aG m' (env.getD d .un) u→
   DI P ops B w0 n0 m0 a0 Q kn pre rest (listed.setIfInBounds i true) env h m' (a.put o.dst u) w':=by
  intro u m' w' g1 g2 g3 g4
  have hset:∀ j,j≠i→(listed.setIfInBounds i true).getD j false=listed.getD j false:=fun j hj=>getD_set_ne false (Ne.symm hj)
  have hl2:∀ x ox,Late ops pre (listed.setIfInBounds i true) x ox→x≠i∧Late ops pre listed x ox:=by
   rintro x ox ⟨h1,h2,h3⟩
   have hne:x≠i:=fun e=>by rw[e,Aq hil] at h2;cases h2
   exact⟨hne,h1,by rw[←hset x hne];exact h2,h3⟩
  refine⟨s.ok,s.all,s.pops,s.pair,s.self,?_,?_,?_,by simpa using s.sz,g3,⟨s.grow.1,?_⟩,by rw[hd];exact s.dfr,?_,?_,?_,?_,?_,s.go⟩
  ·intro j hj
   by_cases e:j=i
   ·subst e;exact hp
   ·rw[hset j e] at hj;exact s.sub j hj
  ·intro j oj hj hoj fj
   exact getD_set_true (s.eff j oj hj hoj fj)
  ·intro k ok hk hlk j hj
   by_cases e:k=i
   ·subst e
    rw[ho] at hk;cases hk
    obtain⟨e,he,rfl⟩:=List.mem_map.1 hj
    obtain⟨he,hb⟩:=List.mem_filter.1 he
    exact getD_set_true (hall e (Array.mem_toList_iff.1 he) hb)
   ·exact getD_set_true (s.closed k ok hk ((hset k e).symm.trans hlk) j hj)
  ·intro b hb
   rw[g2 b fun p=>?_]
   ·exact s.grow.2 b hb
   ·have:=(hblk b p).2.1;omega
  ·exact(s.kept.trans (Kept.put (W:=j3 ops.toList) a o.dst u fun d' hd'=>Lx hd' (by rw[←Array.getElem?_toList] at ho;exact List.mem_of_getElem? ho))).mono fun t ht=>by simpa using ht
  ·rw[hd];simpa[Act.put] using s.len
  ·intro t ht x hx
   by_cases e:t=d
   ·subst e
    rw[List.getD_eq_getElem?_getD,hx] at g4
    refine⟨u,?_,g4⟩
    have:t < a.tmps.size:=by rw[←s.len];exact hdl
    rw[hd];simp[Act.put,this]
   ·have hnw: ¬ Wait ops pre listed t:=by
     rintro⟨x,ox,hx1,hx2⟩
     by_cases e':x=i
     ·subst e'
      have:=hx1.2.2;rw[ho] at this;cases this
      rw[hd] at hx2;cases hx2;exact e rfl
     ·exact ht ⟨x,ox,⟨hx1.1,by rw[hset x e'];exact hx1.2.1,hx1.2.2⟩,hx2⟩
    obtain⟨v,h1,h2⟩:=s.rel t hnw x hx
    refine⟨v,?_,aG.mono g1 _ _ h2⟩
    rw[hd];simpa[Act.put,Array.getElem?_setIfInBounds_ne (Ne.symm e)] using h1
  ·intro x ox hx
   obtain⟨hne,hx'⟩:=hl2 x ox hx
   obtain⟨q1,q2,q3⟩:=s.pend x ox hx'
   refine⟨q1,q2,fun b hb=>?_⟩
   obtain⟨r1,r2,r3⟩:=q3 b hb
   exact⟨r1,r2,by rw[g2 b fun p=>s.dist x i ox o hne hx' ze b hb p];exact r3⟩
  ·intro x y ox oy hne hx hy b
   exact s.dist x y ox oy hne (hl2 x ox hx).2 (hl2 y oy hy).2 b
 unfold wpOp
 rw[ho]
 simp only
 rcases hv with⟨hw,hst⟩|⟨hw,hst⟩
 ·rw[if_pos (s.wanted hl hw)]
  left
  refine aky (ρ:=DI.rho ops pre listed env) hf s.Xr s.sim (v:=env.getD d .un) (by rw[DI.Hr hl];exact hst) ?_ ?_
  ·intro b hb
   rw[DI.Hr hl] at hb
   obtain⟨q1,_,q2⟩:=hblk b ⟨hw,d,hd,hb⟩
   exact⟨q1,q2⟩
  ·intro u m' w' g1 g2 g3 g4
   refine⟨m',done u m' w' g1 (fun b hb=>g2 b fun e=>hb ⟨hw,d,hd,?_⟩) g3 g4⟩
   rw[DI.Hr hl] at e;exact e
 ·rw[if_neg (by rw[s.wanted hl hw];simp)]
  refine⟨m,done undef m w m.le_refl (fun _ _=>rfl) s.sim ?_⟩
  rw[hst];exact LB
theorem DI.effect {i:Nat} {cs:List Nat} (s:DI P ops B w0 n0 m0 a0 Q kn pre ((i,cs)::rest) listed env h m a w) {o:Oper} (so:Ic ops (uH ops.toList) pre i cs (rest.map (·.1)) o) (hf:floats o=false) (hr:i∈Region.ready .any ops listed) {Qx:Exit→Act→World→Prop}:
  wpOp P ops Qx i (fun a' w'=>∃ env' h' m',DI P ops B w0 n0 m0 a0 Q kn (pre++[i]) rest (listed.setIfInBounds i true) env' h' m' a' w') a w:=by
 obtain⟨_,hok⟩:=xI s.ok
 obtain⟨hun,o',ho,hall⟩:=mem_ready.1 hr
 rw[so.op] at ho;cases ho
 have ho:=so.op
 have hisz:i < ops.size:=(Array.getElem?_eq_some_iff.1 ho).1
 have hil:i < listed.size:=by rw[s.sz];exact hisz
 have hl:∀ t,t∈o.looksAt ops→¬ Wait ops pre listed t:=by
  rintro t ht ⟨x,ox,hx,hxd⟩
  obtain⟨ox',hox,q,_⟩:=so.old x hx.1
  rw[hx.2.2] at hox;cases hox
  have:=s.FZ hr (q (WT ht hxd))
  rw[hx.2.1] at this;cases this
 have hlt:∀ d,o.dst=some d→d < env.length:=by
  intro d hd
  have g:=s.go
  unfold qz at g
  rw[so.op] at g
  simp only[hd] at g
  split at g
  case isFalse=>exact g.elim
  rename_i hlt
  simpa only[decide_eq_true_eq] using hlt
 have g:(tK P ops o env fun env'=>wD P ops env' cs (qz P ops rest env' kn)).awp P h Q:=by
  have g:=s.go
  unfold qz at g
  rw[so.op] at g
  simp only at g
  cases hd:o.dst with
  |none=>simpa only[hd,if_true] using g
  |some d=>
   have:=hlt d hd
   simpa only[hd,this,decide_true,if_true] using g
 refine WB ho (ρ:=DI.rho ops pre listed env) s.Xr (DI.Hr hl) (fun j wt hg=>s.Ym hl j wt hg) s.sim g ?_
 intro u av m' h' w' g1 g2 g3 g4
 obtain⟨g5,g6⟩:=Li g4
 have hle:=g1.le s.sim
 have hset:∀ j,j≠i→(listed.setIfInBounds i true).getD j false=listed.getD j false:=fun j hj=>getD_set_ne false (Ne.symm hj)
 have hl2:∀ x ox,Late ops (pre++[i]) (listed.setIfInBounds i true) x ox→x≠i∧Late ops pre listed x ox:=by
  rintro x ox ⟨h1,h2,h3⟩
  have hne:x≠i:=fun e=>by rw[e,Aq hil] at h2;cases h2
  refine⟨hne,?_,by rw[←hset x hne];exact h2,h3⟩
  rcases List.mem_append.1 h1 with e|e
  ·exact e
  ·simp at e;exact absurd e hne
 have hold:∀ x ox,Late ops pre listed x ox→floats ox=true∧(∀ t,t∈ox.looksAt ops→(fG env o.dst av)[t]? =env[t]?)∧(∀ d',ox.dst=some d'→(fG env o.dst av)[d']? =env[d']?)∧(hangs ox=true→x∈cs):=by
  rintro x ox hx
  obtain⟨ox',hox,_,_,q⟩:=so.old x hx.1
  rw[hx.2.2] at hox;cases hox
  rcases q hf with q|⟨q0,q1,q2,q3⟩
  ·have:=s.FZ hr q
   rw[hx.2.1] at this;cases this
  ·refine⟨q0,fun t ht=>Hq av (LH q1 ht),fun d' hd'=>Hq av fun e=>?_,q3⟩
   rcases q2 with q2|q2
   ·rw[hd'] at q2;cases q2
   ·exact q2 (by rw[hd',e])
 refine⟨fG env o.dst av,h',m',hok,?_,?_,?_,?_,?_,?_,?_,by simpa using s.sz,g2,s.grow.trans g1,by cases hd:o.dst<;>exact s.dfr,?_,?_,?_,?_,?_,g5⟩
 ·intro j hj
  rcases s.all j hj with e|e
  ·exact .inl (List.mem_append_left _ e)
  ·rcases List.mem_cons.1 e with e|e
   ·exact .inl (by simp[e])
   ·exact .inr e
 ·intro x hx
  rcases List.mem_append.1 hx with e|e
  ·exact s.pops x e
  ·simp at e;subst e;exact⟨o,so.op⟩
 ·intro x y ox oy hx hy hox hoy fx fy
  rcases List.mem_append.1 hx with ex|ex
  ·rcases List.mem_append.1 hy with ey|ey
   ·exact s.pair x y ox oy ex ey hox hoy fx fy
   ·simp at ey;subst ey
    rw[so.op] at hoy;cases hoy;rw[hf] at fy;cases fy
  ·simp at ex;subst ex
   rw[so.op] at hox;cases hox;rw[hf] at fx;cases fx
 ·intro x ox hx hox fx
  rcases List.mem_append.1 hx with e|e
  ·exact s.self x ox e hox fx
  ·simp at e;subst e;rw[so.op] at hox;cases hox;rw[hf] at fx;cases fx
 ·intro j hj
  by_cases e:j=i
  ·simp[e]
  ·rw[hset j e] at hj;exact List.mem_append_left _ (s.sub j hj)
 ·intro x ox hx hox fx
  rcases List.mem_append.1 hx with e|e
  ·exact getD_set_true (s.eff x ox e hox fx)
  ·simp at e;subst e;exact Aq hil _
 ·intro k ok hk hlk j hj
  by_cases e:k=i
  ·subst e
   rw[ho] at hk;cases hk
   obtain⟨e,he,rfl⟩:=List.mem_map.1 hj
   obtain⟨he,hb⟩:=List.mem_filter.1 he
   exact getD_set_true (hall e (Array.mem_toList_iff.1 he) hb)
  ·exact getD_set_true (s.closed k ok hk ((hset k e).symm.trans hlk) j hj)
 ·exact(s.kept.trans (Kept.put (W:=j3 ops.toList) a o.dst u fun d' hd'=>Lx hd' (by rw[←Array.getElem?_toList] at ho;exact List.mem_of_getElem? ho))).mono fun t ht=>by simpa using ht
 ·rw[K7,s.len];cases o.dst<;>simp[Act.put]
 ·intro t ht x hx
  by_cases e:o.dst=some t
  ·have h1:=hlt t e
   have h2:t < a.tmps.size:=by rw[←s.len];exact h1
   rw[e] at hx ⊢
   simp[fG,h1] at hx
   subst hx
   exact⟨u,by simp[Act.put,h2],g3⟩
  ·rw[Hq av e] at hx
   obtain⟨v,h1,h2⟩:=s.rel t (by
    rintro⟨y,oy,hy,hyd⟩
    have hne:y≠i:=fun e'=>so.new (e'▸hy.1)
    exact ht ⟨y,oy,⟨List.mem_append_left _ hy.1,by rw[hset y hne];exact hy.2.1,hy.2.2⟩,hyd⟩) x hx
   refine⟨v,?_,aG.mono hle _ _ h2⟩
   cases hd:o.dst with
   |none=>exact h1
   |some d=>
    have hne:d≠t:=fun e'=>e (by rw[hd,e'])
    simpa[Act.put,Array.getElem?_setIfInBounds_ne hne] using h1
 ·intro x ox hx
  obtain⟨hne,hx'⟩:=hl2 x ox hx
  obtain⟨q0,q1,q2,q3⟩:=hold x ox hx'
  refine(s.pend x ox hx').look q1 q2 (K7 _ _ _) ?_ g1.1 fun b hb=>g1.2 b hb
  intro d' hd' hw hb hst
  cases hh:hangs ox with
  |false=>exact U9 (Nb q0) (alr hh q0) hst
  |true=>
   obtain⟨ox',d2,r1,r2,r3⟩:=g6 x (q3 hh)
   rw[hx'.2.2] at r1;cases r1
   rw[hd'] at r2;cases r2
   have:=r3 (by rw[AX q1];exact hw)
   rw[A8 q1,List.getD_eq_getElem?_getD,q2 d' hd',←List.getD_eq_getElem?_getD] at this
   exact this
 ·intro x y ox oy hne hx hy b hbx hby
  obtain⟨_,hx'⟩:=hl2 x ox hx
  obtain⟨_,hy'⟩:=hl2 y oy hy
  obtain⟨_,q1,q2,_⟩:=hold x ox hx'
  obtain⟨_,r1,r2,_⟩:=hold y oy hy'
  exact s.dist x y ox oy hne hx' hy' b (vR q1 q2 hbx) (vR r1 r2 hby)
theorem DI.reach {i:Nat}:∀ {rest:List (Nat × List Nat)} {pre:List Nat} {env:List AV} {h:AH},DI P ops B w0 n0 m0 a0 Q kn pre rest listed env h m a w→i∈rest.map (·.1)→i∈Region.ready .any ops listed→
  ∃ pre' cs rest' env' h',DI P ops B w0 n0 m0 a0 Q kn pre' ((i,cs)::rest') listed env' h' m a w
 |[],_,_,_,_,hi,_=>by simp at hi
 |(j,cs)::rest,pre,env,h,s,hi,hr=>by
  by_cases e:i=j
  ·subst e;exact⟨pre,cs,rest,env,h,s⟩
  ·have hi':i∈rest.map (·.1):=by
    rcases List.mem_cons.1 hi with e'|e'
    ·exact absurd e' e
    ·exact e'
   obtain⟨⟨o,so⟩,_⟩:=xI s.ok
   cases hf:floats o with
   |false=>
    have:=s.FZ hr (so.ef hf i hi')
    exact absurd (s.sub j this) so.new
   |true=>
    obtain⟨env',h',s'⟩:=s.adv so hf
    exact s'.reach hi' hr
theorem DI.any {Qx:Exit→Act→World→Prop} (steps:List (Nat × List Nat)) (hsteps:tC ops (uH ops.toList) [] steps=true) (hall:∀ i,i < ops.size→i∈steps.map (·.1))
  (hQ:∀ env' a' m' h' w',Grow n0 m0 h'.n m'→Sim B w0 m' h' w'→aI m' env' a'.tmps.toList→a'.defers=[]→Kept (j3 ops.toList) a0 a'→(kn env').awp P h' Q→Qx .normal a' w'):
  ∀ (fuel:Nat) (listed:Array Bool) (pre:List Nat) (rest:List (Nat × List Nat)) (env:List AV) (h:AH) (m:BM) (a:Act) (w:World),DI P ops B w0 n0 m0 a0 Q kn pre rest listed env h m a w→
   (List.range ops.size).countP (fun i=>!listed.getD i true)≤fuel→wpAny P .any ops Qx fuel listed a w:=by
 have fin:∀ (listed:Array Bool) (pre:List Nat) (rest:List (Nat × List Nat)) (env:List AV) (h:AH) (m:BM) (a:Act) (w:World),DI P ops B w0 n0 m0 a0 Q kn pre rest listed env h m a w→Region.ready .any ops listed=[]→Qx .normal a w:=by
  intro listed pre rest env h m a w s hnil
  have hl:∀ i,i < ops.size→listed.getD i false=true:=by
   intro i hi
   cases hb:listed.getD i false with
   |true=>rfl
   |false=>
    exfalso
    obtain⟨j,o,ho,hn,hp⟩:=UH (L:=fun j=>listed.getD j false=true) steps [] hsteps (by simp) ⟨i,hall i hi,by simp only[hb];simp⟩
    have hj:j < listed.size:=by rw[s.sz];exact(Array.getElem?_eq_some_iff.1 ho).1
    have:j∈Region.ready .any ops listed:=by
     rw[mem_ready]
     refine⟨?_,o,ho,fun e he hb=>hp e.on (List.mem_map.2 ⟨e,List.mem_filter.2 ⟨Array.mem_toList_iff.2 he,hb⟩,rfl⟩)⟩
     simp only[Bool.not_eq_true] at hn
     rw[Array.getD_eq_getD_getElem?] at hn ⊢
     simpa[hj] using hn
    rw[hnil] at this;cases this
  have hrest:rest=[]:=by
   cases hr:rest with
   |nil=>rfl
   |cons ic r=>
    subst hr
    obtain⟨j,cs⟩:=ic
    obtain⟨⟨o,so⟩,_⟩:=xI s.ok
    exact absurd (s.sub j (hl j (Array.getElem?_eq_some_iff.1 so.op).1)) so.new
  subst hrest
  refine hQ env a m h w s.grow s.sim ?_ s.dfr s.kept (by simpa only[qz] using s.go)
  refine aI.wm (by simpa using s.len) fun t x v hx hv=>?_
  obtain⟨v',h1,h2⟩:=s.rel t (by
   rintro⟨y,oy,hy,_⟩
   have:=hl y (Array.getElem?_eq_some_iff.1 hy.2.2).1
   rw[hy.2.1] at this;cases this) x hx
  rw[Array.getElem?_toList,h1] at hv
  cases hv;exact h2
 intro fuel
 induction fuel with
 |zero=>
  intro listed pre rest env h m a w s hc
  have hnil:Region.ready .any ops listed=[]:=by
   cases hr:Region.ready .any ops listed with
   |nil=>rfl
   |cons j r=>
    obtain⟨h1,o,ho,_⟩:=mem_ready.1 (show j∈Region.ready .any ops listed by rw[hr];simp)
    have:0 < (List.range ops.size).countP (fun i=>!listed.getD i true):=List.countP_pos_iff.2 ⟨j,List.mem_range.2 (Array.getElem?_eq_some_iff.1 ho).1,by simp only[h1];rfl⟩
    omega
  exact⟨hnil,fin listed pre rest env h m a w s hnil⟩
 |succ fuel ih=>
  intro listed pre rest env h m a w s hc
  refine⟨fin listed pre rest env h m a w s,fun i hi=>?_⟩
  obtain⟨h1,o,ho,_⟩:=mem_ready.1 hi
  have hisz:i < ops.size:=(Array.getElem?_eq_some_iff.1 ho).1
  have hil:i < listed.size:=by rw[s.sz];exact hisz
  have hc':(List.range ops.size).countP (fun j=>!(listed.setIfInBounds i true).getD j true)≤fuel:=by
   have:=V7 (p:=fun j=>!listed.getD j true) (q:=fun j=>!(listed.setIfInBounds i true).getD j true) (List.mem_range.2 hisz) (fun j hj=>by
    by_cases e:j=i
    ·subst e;simp only[Aq hil] at hj;cases hj
    ·simp only[getD_set_ne true (Ne.symm e)] at hj;exact hj) (by simp only[h1];rfl) (by simp only[Aq hil];rfl)
   omega
  have rep:∀ {pre rest env h},DI P ops B w0 n0 m0 a0 Q kn pre rest listed env h m a w→i∈pre→wpOp P ops Qx i (wpAny P .any ops Qx fuel (listed.setIfInBounds i true)) a w:=fun s hp=>
   wpOp_mono (fun a' w' ⟨m',s'⟩=>ih _ _ _ _ _ _ _ _ s' hc') (s.replay hp hi)
  rcases s.all i hisz with hp|hp
  ·exact rep s hp
  ·obtain⟨pre',cs,rest',env',h',s'⟩:=s.reach hp hi
   obtain⟨⟨o',so⟩,_⟩:=xI s'.ok
   cases hf:floats o' with
   |true=>
    obtain⟨Zt,h2,s2⟩:=s'.adv so hf
    exact rep s2 (by simp)
   |false=>exact wpOp_mono (fun a' w' ⟨_,_,_,s'⟩=>ih _ _ _ _ _ _ _ _ s' hc') (s'.effect so hf hi)
theorem ajs {ops:Array Oper} {steps:List (Nat × List Nat)} (hok:MH ops steps=true) {id:Nat} {Qx:Exit→Act→World→Prop} {Q:Nat→List AV→AH→Prop} {kn:List AV→Prog} {env:List AV} {a:Act}
  (hm:P.follows .mixedOrders=true) (s:Sim B w0 m h w) (r:aI m env a.tmps.toList) (hd:a.defers=[]) (g:(qz P ops steps env kn).awp P h Q)
  (hQ:∀ env' a' m' h' w',Grow h.n m h'.n m'→Sim B w0 m' h' w'→aI m' env' a'.tmps.toList→a'.defers=[]→Kept (j3 ops.toList) a a'→(kn env').awp P h' Q→Qx .normal a' w'):
  (Code.region id ops true).wp P Qx a w:=by
 simp only[MH,Bool.and_eq_true,beq_iff_eq,List.all_eq_true,List.mem_range,List.contains_eq_mem,decide_eq_true_eq] at hok
 obtain⟨⟨_,h2⟩,h3⟩:=hok
 refine wp_region_any hm (DI.any (n0:=h.n) (m0:=m) (a0:=a) (kn:=kn) (Q:=Q) steps h3 (fun i hi=>h2 i hi) hQ ops.size _ [] steps env h m a _ ?_ ?_)
 ·have hf:∀ i,(Array.replicate ops.size false).getD i false=false:=fun i=>by
   rw[Array.getD_eq_getD_getElem?,Array.getElem?_replicate];split<;>rfl
  refine⟨h3,fun i hi=>.inr (h2 i hi),?_,?_,?_,?_,?_,?_,by simp,s.drew _,Grow.refl _ _,hd,Kept.refl _ _,by simpa using r.length,?_,?_,?_,g⟩
  ·intro x hx;cases hx
  ·intro x y _ _ hx;cases hx
  ·intro x _ hx;cases hx
  ·intro i hi;rw[hf i] at hi;cases hi
  ·intro i _ hi;cases hi
  ·intro k _ _ hk;simp only[hf k] at hk;cases hk
  ·intro t _ x hx
   obtain⟨v,h1,h2⟩:=r.get t x hx
   exact⟨v,by simpa using h1,h2⟩
  ·intro x _ hx;cases hx.1
  ·intro x y _ _ _ hx;cases hx.1
 ·exact Nat.le_trans List.countP_le_length (by simp)
end Go.Ab
end
section
namespace Go.Ab
open Go.RowKit
variable{B:Nat} {w0 w w':World} {m m':BM} {h:AH} {P:Program}
def wJ (P:Program) (rvs:List ResultVar) (env:List AV):List RV:=
 rvs.map fun
  | .tmp t=>.val (env.getD t .un)
  | .cell a t=>match P.underlying t,P.info? t with
   |some (.struct _),some i=>.cn i.size (env.getD a .un)
   |some d,_=>if qJ d=true then .c1 (env.getD a .un) else .c1 .un
   |_,_=>.c1 .un
theorem ak5 (s:Sim B w0 m h w) {t:TypeId} {a v:AV} {va:Value} (r:aG m a va)
  (hv:(match P.underlying t,P.info? t with
   |some (.struct _),some i=>RV.cn i.size a
   |some d,_=>if qJ d=true then .c1 a else .c1 .un
   |_,_=>.c1 .un).get h=some v):
  ∃ u,(do loadVar t (←asAddr va):Sem Value).run P w= .ok u w∧aG m v u:=by
 split at hv
 ·rename_i fs i hu hi
  simp only[RV.get] at hv
  split at hv
  ·rename_i b o
   split at hv
   ·cases hv
   ·rename_i hst
    split at hv
    ·rename_i hn
     simp only[Option.some.injEq] at hv;subst hv
     simp only[aG] at r
     obtain⟨p,hp,rfl⟩:=r
     obtain⟨l,h1,h2,h3,h4⟩:=s.read hp hst hn
     have hrun:=run_loadCells_list (P:=P) w (⟨p.rb,p.ro+o,none⟩:Addr) l h4
     rw[h3] at hrun
     refine⟨.agg l.toArray,?_,by simp only[aG];exact⟨l,h1,h2,rfl⟩⟩
     simp[asAddr,loadVar,isAgg,run_underlying hu,jN hi,hrun]
    ·cases hv
  ·cases hv
 ·rename_i d hu _
  split at hv
  ·rename_i hpl
   simp only[RV.get] at hv
   split at hv
   ·rename_i b o
    split at hv
    ·cases hv
    ·rename_i hst
     simp only[aG] at r
     obtain⟨p,hp,rfl⟩:=r
     obtain⟨v',h1,h2,h3⟩:=(s.blk b p hp hst).2 o v hv
     exact⟨v',by simp[asAddr,loadVar,Bg (by assumption) hpl,h1],h2⟩
   ·cases hv
  ·simp[RV.get] at hv
 ·simp[RV.get] at hv
def Ht (tmps:Array Value):ResultVar→Sem Value
 | .tmp t=>pure (tmps.getD t undef)
 | .cell a t=>do loadVar t (←asAddr (tmps.getD a undef))
theorem aje (f:Func) (tmps:Array Value):results f tmps=(do
  let vs ←f.results.mapM (Ht tmps)
  pure (if h:vs.size=1 then vs[0] else .tuple vs)):=by
 have e:(fun x:ResultVar=>(match x with
   | .tmp t=>pure (tmps.getD t undef)
   | .cell a t=>do loadVar t (←asAddr (tmps.getD a undef)):Sem Value))=Ht tmps:=by funext x;cases x<;>rfl
 rw[←e]
 rfl
theorem Sw {f:Func} {env:List AV} {a:Act} (r:aI m env a.tmps.toList) (s:Sim B w0 m h w) {vs:List AV} (hv:pF h (wJ P f.results.toList env)=some vs):
  ∃ v,(results f a.tmps).run P w= .ok v w∧aG m (retv vs) v:=by
 have key:∀ (l:List ResultVar) (vs:List AV),pF h (wJ P l env)=some vs→∃ us:List Value,(l.mapM (Ht a.tmps)).run P w= .ok us w∧aI m vs us:=by
  intro l
  induction l with
  |nil=>intro vs hv;simp[wJ,pF] at hv;subst hv;exact⟨[],rfl,aI.nil⟩
  |cons x l ih=>
   intro vs hv
   simp only[wJ,List.map_cons,pF] at hv
   split at hv
   ·rename_i v vs' h1 h2
    simp only[Option.some.injEq] at hv;subst hv
    obtain⟨us,g1,g2⟩:=ih vs' h2
    have hx:∃ u,(Ht a.tmps x).run P w= .ok u w∧aG m v u:=by
     cases x with
     |tmp t=>
      simp only[RV.get,Option.some.injEq] at h1;subst h1
      exact⟨_,rfl,by simpa using FY r t undef⟩
     |cell ad t=>exact ak5 s (by simpa using FY r ad undef) h1
    obtain⟨u,g3,g4⟩:=hx
    refine⟨u::us,?_,aI.cons g4 g2⟩
    rw[List.mapM_cons]
    simp[g3,g1]
   ·cases hv
 obtain⟨us,g1,g2⟩:=key _ _ hv
 have hrun:(results f a.tmps).run P w= .ok (if hh:us.toArray.size=1 then us.toArray[0] else .tuple us.toArray) w:=by
  rw[aje,Array.mapM_eq_mapM_toList]
  simp only[bind_map_left,Sem.run_bind,g1,Result.andThen_ok]
  simp
 refine⟨_,hrun,?_⟩
 cases g2':us with
 |nil=>
  subst g2'
  have:vs=[]:=List.length_eq_zero_iff.1 (by rw[g2.length];rfl)
  subst this
  simp only[retv,aG];exact⟨[],aI.nil,by simp⟩
 |cons u us'=>
  subst g2'
  cases vs with
  |nil=>have:=g2.length;simp at this
  |cons v vs'=>
   obtain⟨u2,us2,e,r1,r2⟩:=g2.cons_inv
   cases e
   cases us' with
   |nil=>
    have:vs'=[]:=List.length_eq_zero_iff.1 (by rw[r2.length];rfl)
    subst this
    simpa[retv] using r1
   |cons u3 us3=>
    cases vs' with
    |nil=>have:=r2.length;simp at this
    |cons v3 vs3=>
     simp only[retv,aG]
     exact⟨_,g2,by simp⟩
def Nl (P:Program) (f:Func) (B:Nat) (w0:World) (n0:Nat) (m0:BM) (a0:Act) (W:List Nat) (kn:List AV→Prog) (kx:Nat→List AV→Prog) (Q:Nat→List AV→AH→Prop):Exit→Act→World→Prop:=fun e a w=>
 a.defers=[]∧Kept W a0 a∧∃ (m:BM) (h:AH),Grow n0 m0 h.n m∧Sim B w0 m h w∧(match e with
  | .normal=>∃ env,aI m env a.tmps.toList∧(kn env).awp P h Q
  | .exit id=>∃ env,aI m env a.tmps.toList∧(kx id env).awp P h Q
  | .ret=>∃ v av,(results f a.tmps).run P w= .ok v w∧aG m av v∧Q 1 [av] h
  |_=>False)
theorem ajK {c:Code} {Q:Exit→Act→World→Prop} (I:Nat→Act→World→Prop) {n:Nat} {a:Act} (h0:I n a w)
  (round:∀ n a w,I n a w→c.wp P (Exit.then (fun a' w'=>∃ n',n' < n∧I n' a' w') Q) a w):(Code.loop c).wp P Q a w:=by
 intro b k cs
 have key:∀ (n:Nat) (a:Act) (w:World),I n a w→∃ e a' w',Q e a' w'∧Arrives P (lone (b.at a (.code c:: .inLoop c::k)) cs w) b k cs e a' w':=by
  intro n
  induction n using Nat.strongRecOn with
  |_ n ih=>
   intro a w hI
   obtain⟨e,a1,w1,hq,harr⟩:=round n a w hI b (.inLoop c::k) cs
   cases e with
   |normal=>
    obtain⟨n',hlt,hI1⟩:=hq
    obtain⟨e2,a2,w2,hq2,amW⟩:=ih n' hlt a1 w1 hI1
    exact⟨e2,a2,w2,hq2,.of_steps (Steps.trans harr (.one step_inLoop)) amW⟩
   |exit id=>exact⟨_,a1,w1,hq,.pass (x:=.inLoop c) rfl (fun _ _=>.inl (by simp)) harr⟩
   |goto l=>exact⟨_,a1,w1,hq,.pass (x:=.inLoop c) rfl (fun _ _=>.inl (by simp)) harr⟩
   |ret=>exact⟨_,a1,w1,hq,.pass (x:=.inLoop c) rfl (fun _ _=>.inl (by simp)) harr⟩
   |panic ch=>exact⟨_,a1,w1,hq,.pass (x:=.inLoop c) rfl (fun _ _=>.inl (by simp)) harr⟩
   |outgrown=>exact⟨_,a1,w1,hq,.pass (x:=.inLoop c) rfl (fun _ _=>.inl (by simp)) harr⟩
 obtain⟨e,a',w',hq,harr⟩:=key n a w h0
 exact⟨e,a',w',hq,.of_steps (.one step_loop) harr⟩
theorem akh (hm:P.follows .mixedOrders=true) (f:Func) (lv:List Nat) (sch:Nat→List (Nat × List Nat)):∀ (c:Code) (env:List AV) (kn:List AV→Prog) (kx:Nat→List AV→Prog) (Q:Nat→List AV→AH→Prop) (h:AH) (m:BM) (a:Act) (w:World),
  Sim B w0 m h w→aI m env a.tmps.toList→a.defers=[]→(tr P lv sch (wJ P f.results.toList) c env kn kx).awp P h Q→c.wp P (Nl P f B w0 h.n m a (wr c) kn kx Q) a w:=by
 intro c
 induction c with
 |skip=>intro env kn kx Q h m a w s r hd g;exact wp_skip ⟨hd,Kept.refl _ _,m,h,Grow.refl _ _,s,env,r,g⟩
 |ret=>
  intro env kn kx Q h m a w s r hd g
  simp only[tr,Prog.awp] at g
  split at g
  ·rename_i vs hv
   obtain⟨v,h1,h2⟩:=Sw r s hv
   exact wp_ret ⟨hd,Kept.refl _ _,m,h,Grow.refl _ _,s,v,retv vs,h1,h2,g⟩
  ·exact g.elim
 |exit id=>intro env kn kx Q h m a w s r hd g;exact wp_exit ⟨hd,Kept.refl _ _,m,h,Grow.refl _ _,s,env,r,g⟩
 |seq x y ihx ihy=>
  intro env kn kx Q h m a w s r hd g
  refine wp_seq (wp_mono (ihx env _ kx Q h m a w s r hd g) ?_)
  rintro e a1 w1 ⟨hd1,hk1,m1,h1,g1,s1,hh⟩
  cases e with
  |normal=>
   obtain⟨uF,r1,gg⟩:=hh
   refine wp_mono (ihy uF kn kx Q h1 m1 a1 w1 s1 r1 hd1 gg) ?_
   rintro e a2 w2 ⟨hd2,hk2,m2,h2,g2,s2,hh⟩
   exact⟨hd2,hk1.trans hk2,m2,h2,g1.trans g2,s2,hh⟩
  |exit id=>exact⟨hd1,hk1.mono fun t ht=>by simp[wr];exact .inl ht,m1,h1,g1,s1,hh⟩
  |ret=>exact⟨hd1,hk1.mono fun t ht=>by simp[wr];exact .inl ht,m1,h1,g1,s1,hh⟩
  |goto l=>exact hh.elim
  |panic ch=>exact hh.elim
  |outgrown=>exact hh.elim
 |region id ops draw=>
  intro env kn kx Q h m a w s r hd g
  simp only[tr] at g
  split at g
  ·rename_i hdr
   split at g
   ·rename_i hok
    subst hdr
    exact ajs hok hm s r hd g fun env' a' m' h' w' g1 g2 g3 g4 g5 g6=>⟨g4,g5,m',h',g1,g2,env',g3,g6⟩
   ·exact g.elim
  ·rename_i hdr
   have:draw=false:=by simpa using hdr
   subst this
   refine wp_region (VH (n0:=h.n) (m0:=m) (a0:=a) ?_ _ env a m h w (Grow.refl _ _) s r hd (Kept.refl _ _) g)
   intro env' a' m' h' w' g1 g2 g3 g4 g5 g6
   exact⟨g4,g5,m',h',g1,g2,env',g3,g6⟩
 |cond c x y ihx ihy=>
  intro env kn kx Q h m a w s r hd g
  have hc:=XQ r c
  simp only[tr] at g
  split at g
  ·
   simp only[Prog.awp] at g
   have fin:∀ {z:Code},(∀ t,t∈wr z→t∈wr (.cond c x y))→z.wp P (Nl P f B w0 h.n m a (wr z) (fun e=>.leaf 0 (pack e (iI (.cond c x y) lv))) (fun id e=>.leaf (id+2) (pack e (iI (.cond c x y) lv)))
     (fun tag vs h'=>if tag=0 then(kn (unpack (forget env (wr (.cond c x y))) (iI (.cond c x y) lv) vs)).awp P h' Q
      else(afterX tag vs (.cond c x y) fun id=>kx id (unpack (forget env (wr (.cond c x y))) (iI (.cond c x y) lv) vs)).awp P h' Q)) a w→
     z.wp P (Nl P f B w0 h.n m a (wr (.cond c x y)) kn kx Q) a w:=by
    intro z hz hw
    refine wp_mono hw ?_
    rintro e a1 w1 ⟨hd1,hk1,m1,h1,g1,s1,hh⟩
    have hk2:=hk1.mono hz
    refine⟨hd1,hk2,m1,h1,g1,s1,?_⟩
    cases e with
    |normal=>
     obtain⟨uF,r1,gg⟩:=hh
     simp only[Prog.awp,if_true] at gg
     exact⟨_,sW r (g1.le s) hk2 r1 _,gg⟩
    |exit id=>
     obtain⟨uF,r1,gg⟩:=hh
     simp only[Prog.awp] at gg
     rw[if_neg (by omega)] at gg
     replace gg:=Lv gg
     exact⟨_,sW r (g1.le s) hk2 r1 _,gg⟩
    |ret=>
     obtain⟨v,av,e1,e2,e3⟩:=hh
     simp[Prog.awp,afterX,aB] at e3
     exact⟨v,av,e1,e2,e3⟩
    |goto l=>exact hh.elim
    |panic ch=>exact hh.elim
    |outgrown=>exact hh.elim
   split at g
   ·rename_i b hb
    rw[hb] at hc
    simp only[aG] at hc
    split at g
    ·rename_i e;subst e
     exact wp_cond_true hc (fin (fun t ht=>by simp[wr];exact .inl ht) (ihx env _ _ _ h m a w s r hd g))
    ·rename_i e
     have:b=false:=by simpa using e
     subst this
     exact wp_cond_false hc (fin (fun t ht=>by simp[wr];exact .inr ht) (ihy env _ _ _ h m a w s r hd g))
   ·exact g.elim
  ·simp only[Prog.awp] at g
   split at g
   ·rename_i b hb
    rw[hb] at hc
    simp only[aG] at hc
    split at g
    ·rename_i e;subst e
     refine wp_cond_true hc (wp_mono (ihx env kn kx Q h m a w s r hd g) ?_)
     rintro e a1 w1 ⟨hd1,hk1,rest⟩
     exact⟨hd1,hk1.mono fun t ht=>by simp[wr];exact .inl ht,rest⟩
    ·rename_i e
     have:b=false:=by simpa using e
     subst this
     refine wp_cond_false hc (wp_mono (ihy env kn kx Q h m a w s r hd g) ?_)
     rintro e a1 w1 ⟨hd1,hk1,rest⟩
     exact⟨hd1,hk1.mono fun t ht=>by simp[wr];exact .inr ht,rest⟩
   ·exact g.elim
 |block id x ih=>
  intro env kn kx Q h m a w s r hd g
  simp only[tr] at g
  refine wp_block ?_
  split at g
  ·simp only[Prog.awp] at g
   refine wp_mono (ih env _ _ _ h m a w s r hd g) ?_
   rintro e a1 w1 ⟨hd1,hk1,m1,h1,g1,s1,hh⟩
   cases e with
   |normal=>
    obtain⟨uF,r1,gg⟩:=hh
    simp only[Prog.awp,if_true] at gg
    exact⟨hd1,hk1,m1,h1,g1,s1,_,sW r (g1.le s) hk1 r1 _,gg⟩
   |exit id'=>
    obtain⟨uF,r1,gg⟩:=hh
    simp only[Exit.inBlock]
    dsimp only at gg
    split at gg
    ·rename_i e;rw[if_pos e]
     simp only[Prog.awp,if_true] at gg
     exact⟨hd1,hk1,m1,h1,g1,s1,_,sW r (g1.le s) hk1 r1 _,gg⟩
    ·rename_i e;rw[if_neg e]
     simp only[Prog.awp] at gg
     rw[if_neg (by omega)] at gg
     replace gg:=Lv gg
     exact⟨hd1,hk1,m1,h1,g1,s1,_,sW r (g1.le s) hk1 r1 _,gg⟩
   |ret=>
    obtain⟨v,av,e1,e2,e3⟩:=hh
    simp[Prog.awp,afterX,aB] at e3
    exact⟨hd1,hk1,m1,h1,g1,s1,v,av,e1,e2,e3⟩
   |goto l=>exact hh.elim
   |panic ch=>exact hh.elim
   |outgrown=>exact hh.elim
  ·refine wp_mono (ih env _ _ _ h m a w s r hd g) ?_
   rintro e a1 w1 ⟨hd1,hk1,m1,h1,g1,s1,hh⟩
   cases e with
   |normal=>exact⟨hd1,hk1,m1,h1,g1,s1,hh⟩
   |exit id'=>
    obtain⟨uF,r1,gg⟩:=hh
    simp only[Exit.inBlock]
    dsimp only at gg
    split at gg
    ·rename_i e;rw[if_pos e];exact⟨hd1,hk1,m1,h1,g1,s1,uF,r1,gg⟩
    ·rename_i e;rw[if_neg e];exact⟨hd1,hk1,m1,h1,g1,s1,uF,r1,gg⟩
   |ret=>exact⟨hd1,hk1,m1,h1,g1,s1,hh⟩
   |goto l=>exact hh.elim
   |panic ch=>exact hh.elim
   |outgrown=>exact hh.elim
 |loop x ih=>
  intro env kn kx Q h m a w s r hd g
  simp only[tr,Prog.awp] at g
  obtain⟨I,μ,hI,hr⟩:=g
  refine ajK (n:=μ (pack env (iI x lv)) h) (fun n a1 w1=>a1.defers=[]∧Kept (wr x) a a1∧∃ (m1:BM) (h1:AH) (vs:List AV),Grow h.n m h1.n m1∧Sim B w0 m1 h1 w1∧aI m1 (unpack (forget env (wr x)) (iI x lv) vs) a1.tmps.toList∧I vs h1∧μ vs h1=n) ?_ ?_
  ·exact⟨hd,Kept.refl _ _,m,h,_,Grow.refl _ _,s,sW r (m.le_refl) (Kept.refl _ _) r _,hI,rfl⟩
  ·rintro n a1 w1 ⟨hd1,hk1,m1,h1,vs,g1,s1,r1,hI1,rfl⟩
   refine wp_mono (ih _ _ _ _ h1 m1 a1 w1 s1 r1 hd1 (hr vs h1 hI1)) ?_
   rintro e a2 w2 ⟨hd2,hk2,m2,h2,g2,s2,hh⟩
   have hk3:Kept (wr x) a a2:=(hk1.trans hk2).mono fun t ht=>by simpa using ht
   cases e with
   |normal=>
    obtain⟨Zt,r2,gg⟩:=hh
    simp only[Prog.awp,if_true] at gg
    exact⟨_,gg.2,hd2,hk3,m2,h2,_,g1.trans g2,s2,sW r ((g1.trans g2).le s) hk3 r2 _,gg.1,rfl⟩
   |exit id=>
    obtain⟨Zt,r2,gg⟩:=hh
    simp only[Prog.awp] at gg
    rw[if_neg (by omega)] at gg
    replace gg:=Lv gg
    exact⟨hd2,hk3,m2,h2,g1.trans g2,s2,_,sW r ((g1.trans g2).le s) hk3 r2 _,gg⟩
   |ret=>
    obtain⟨v,av,e1,e2,e3⟩:=hh
    simp[Prog.awp,afterX,aB] at e3
    exact⟨hd2,hk3,m2,h2,g1.trans g2,s2,v,av,e1,e2,e3⟩
   |goto l=>exact hh.elim
   |panic ch=>exact hh.elim
   |outgrown=>exact hh.elim
 |_=>intro env kn kx Q h m a w s r hd g;exact g.elim
def trF (P:Program) (f:Func) (lv:List Nat) (sch:Nat→List (Nat × List Nat)) (args:List AV):Prog:=
 match f.body with
 |some c=>tr P lv sch (wJ P f.results.toList) c (args++List.replicate (f.ntmps - args.length) (.tup [])) (fun env=>.fin (wJ P f.results.toList env)) (fun _ _=>.bad)
 |none=>.bad
theorem aiF (n:Nat):aI m (List.replicate n (.tup [])) (List.replicate n undef):=acs LB n
theorem ake (hm:P.follows .mixedOrders=true) {fi:FuncId} {f:Func} (hf:P.funcs[fi]? =some f) (hn:(f.name == "runtime.NumGoroutine")=false) (hb:f.body.isNone=false) (lv:List Nat) (sch:Nat→List (Nat × List Nat)) {args:List AV} {h:AH} {R:AV→AH→Prop} {p:Prog}
  (hp:trF P f lv sch args=p) (g:p.awp P h fun t vs h'=>t=1∧∃ v,vs=[v]∧R v h'):bN P fi args h R:=by
 refine⟨⟨f,hf,hn,hb⟩,fun B w0 m w l s hl=>?_⟩
 subst hp
 unfold trF at g
 split at g
 ·rename_i c hc
  refine calls_of_wp hf hc ?_
  have hlen:=hl.length
  refine wp_mono (akh hm f lv sch c _ _ _ _ h m _ w s ?_ rfl g) ?_
  ·simpa[hlen] using hl.append (aiF (f.ntmps - args.length))
  ·rintro e a' w' ⟨hd,hk,m',h',g1,s',hh⟩
   cases e with
   |normal=>
    obtain⟨env',r',gg⟩:=hh
    simp only[Prog.awp] at gg
    split at gg
    ·rename_i vs hv
     obtain⟨v,e1,e2⟩:=Sw r' s' hv
     obtain⟨_,av,e3,e4⟩:=gg
     cases e3
     exact⟨hd,v,e1,v,_,m',h',rfl,g1,s',e2,e4⟩
    ·exact gg.elim
   |exit id=>obtain⟨env',r',gg⟩:=hh;exact gg.elim
   |ret=>
    obtain⟨v,av,e1,e2,_,av',e3,e4⟩:=hh
    cases e3
    exact⟨hd,v,e1,v,_,m',h',rfl,g1,s',e2,e4⟩
   |goto l=>exact hh.elim
   |panic ch=>exact hh.elim
   |outgrown=>exact hh.elim
 ·exact g.elim
end Go.Ab
end
