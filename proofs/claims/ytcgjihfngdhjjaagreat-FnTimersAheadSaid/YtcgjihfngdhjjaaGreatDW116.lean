import Derived.Test.YtcgjihfngdhjjaaGreatDW75
import Derived.Test.YtcgjihfngdhjjaaGreatDW115
section
set_option linter.unusedSimpArgs false
set_option linter.unusedVariables false
namespace Go.Proofs.YtcgjihfngdhjjaaGreat
open Go Go.Ab
section
variable{x:Wld} {k:Nat} {t:Task}
theorem WI.pW {y:Wld} (h:WI y) (hs:y.time < 4611686018427387904) (ht:y.tasks[k]? =some t) (hop:t.op=2) (hpc:t.pc=2) {d d1:aW} (hg:y.aF[t.h.toNat]? =some d) (hf:nk k t d)
  (hd:jL {d1 with res:=-1}) (e1:d1.task=d.task) (e2:d1.res=d.res) (e3:d1.op=d.op) (e4:d1.s=d.s) (e5:d1.trace=d.trace) (e6:d1.stamp=d.stamp) (e7:d1.inv=d.inv) (hl:d1.lin=y.time) (hi:d.inv≤y.time)
  {hand:List Itm} (hh:∀ z∈hand,kZ z∧z.stamp=t.stamp) (hj:∀ u∈allT y.st,¬ isJ u.id u.stamp t):WI (cB (mQ {y with aF:=y.aF.set t.h.toNat d1} k t hand)):=by
 obtain⟨hk5,hk3,⟨ha,hb⟩,hz,htr,hst⟩:=task2 h ht hop
 obtain⟨f1,f2,f3,f4⟩:=hf
 have h0:=h.time
 have hlt:=(List.getElem?_eq_some_iff.1 hg).1
 have hg1:(y.aF.set t.h.toNat d1)[t.h.toNat]? =some d1:=by rw[List.getElem?_set_self hlt]
 obtain⟨d1',d2,d3,d4,d5,d6,d7,d8,d9⟩:=hd
 have hn:=h.n1
 have hold:=wP hn (t:=t) (.inr ⟨hop,.inr hpc⟩)
 have hd8:d1.inv≤d1.lin:=by rw[e7,hl];exact hi
 unfold mQ
 by_cases hys:hand.length=0
 ·simp only[hys,if_true,gV hg1,List.set_set]
  exact h.fin hs (t':=dX) (st':=fD y.st t.trace (-1)) (r':=-1) (d':={d1 with res:=y.time}) ht (Bc h.st ⟨by omega,by omega⟩) wL qE hg f1 ⟨⟨d1',d2,d3,d4,d5,d6,d7,.inr hd8,.inr ⟨by show d1.lin≠-1;omega,by show d1.lin≤y.time;omega⟩⟩,by show d1.inv≤y.time;omega,by show d1.lin≤y.time;omega,Int.le_refl _⟩ (MZ hk5) (fun q=>absurd rfl q) (by show(0:Int) < y.next;have:=h.next;omega) (fun u hu q=>absurd q (hj u hu))
   (Gh h ht rfl qE (fun i s' hs'=>BL h hs') hold GI (by rw[if_pos ⟨hop,hpc⟩]) (by simp[dX]))
 ·simp only[hys,if_false]
  refine h.fin hs (t':={t with pc:=3,hand:=hand}) (st':=fD y.st t.trace (-1)) (r':=-1) (d':=d1) ht (Bc h.st ⟨by omega,by omega⟩) wL qE hg f1 ⟨⟨d1',d2,d3,d4,d5,d6,d7,.inr hd8,.inl (by rw[e2];exact f2)⟩,by omega,by omega,by rw[e2,f2];omega⟩ ?_ (fun _=>⟨rfl,by rw[e1];exact f1,by rw[e2];exact f2,⟨fun _=>⟨hop,rfl⟩,fun _=>by omega⟩,?_⟩) (h.tasks k t ht).2 (fun u hu q=>absurd q (hj u hu))
   (Gh h ht rfl qE (fun i s' hs'=>BL h hs') hold (holds_none (by simp) (by simp;omega)) (by rw[if_pos ⟨hop,hpc⟩]) (by simp))
  ·obtain⟨⟨t1,t2,t3,-⟩,-⟩:=(h.tasks k t ht).1
   exact⟨t1,⟨by show(0:Int)≤3;omega,by show(3:Int)≤3;omega⟩,t3,.inr (.inr ⟨hop,by omega,⟨hh,⟨fun _=>by show 0 < (hand.length:Int);omega,fun _=>rfl⟩⟩,hz,htr,hst⟩)⟩
  ·rcases f4 with⟨q,-,-⟩|⟨-,q1,q2,q3⟩
   ·omega
   ·exact .inr ⟨hop,by rw[e3];exact q1,by rw[e5];exact q2,by rw[e6];exact q3⟩
theorem WI.say (h:WI x) (hs:Sml x) (ht:x.tasks[k]? =some t) (hop:t.op=2) (hpc:t.pc=2):WI (cB (kG x k t)):=by
 obtain⟨hk5,hk3,⟨ha,hb⟩,hz,htr,hst⟩:=task2 h ht hop
 obtain⟨d,hg,hf,hm⟩:=h.own ht (by omega)
 have hf0:=hf
 obtain⟨f1,f2,f3,f4⟩:=hf
 obtain⟨⟨d1,d2,d3,d4,d5,d6,d7,d8,d9⟩,g2,g3,g4⟩:=h.aF d hm
 have h0:=h.time
 have hw:=h.w.1.1
 have alJ:d.op=2:=by rcases f4 with⟨q,-,-⟩|⟨-,q,-⟩;omega;exact q
 have hcode:d.code=0:=by rcases d7 with⟨q,-⟩|⟨-,q⟩;omega;exact q
 unfold kG
 by_cases hc:zL x t
 ·rw[if_pos (fK hc)]
  cases hfo:dP x.st t.trace with
  |none=>have:=(nG hfo).2;rw[hc.1] at this;cases this
  |some o=>
   obtain⟨e1,e2⟩:=kP hfo
   obtain⟨hin,hid⟩:=zw hfo
   have hot:=BR h.st hin
   have Ny:o.stamp=t.stamp:=by have:=hc.2;rw[e1] at this;exact this
   obtain⟨c1,c2⟩:=h.forget (keep:=qg x t) (o:=o) (by rw[hid];exact hfo)
   obtain⟨r1,r2,r3,r4⟩:=agj h.b h.bc.2.2
   obtain⟨s1,s2,s3,s4⟩:=ag1 (n:=qc x t) r1
   have c3:=c1.bkt (b:=kM (vO x) (qc x t)) s1 ⟨by rw[show(kM (vO x) (qc x t)).rate=_ from s2,r2];exact h.bc.1,by rw[show(kM (vO x) (qc x t)).aZ=_ from s3,r3];exact h.bc.2.1,by rw[show(kM (vO x) (qc x t)).at_=_ from s4];exact r4⟩
   have hnn:0≤qc x t:=agq r1.2.2.1.1
   have hfn:=Ut h (o:=o) (keep:=qg x t) hot.2.1.1
   simp only[gV hg,e1]
   exact c3.pW hs.1 (d:=d) (d1:={d with keep:=qg x t,took:=qc x t,n:=o.spans.length,forgot:=ko x o (qg x t),lin:=x.time,now:=x.w.now}) ht hop hpc hg hf0 ⟨d1,d2,hnn,Int.natCast_nonneg _,hfn,hw,.inr ⟨fun q=>by have:d.op=1:=q.1;omega,hcode⟩,.inr (by show d.inv≤x.time;omega),.inl rfl⟩ rfl rfl rfl rfl rfl rfl rfl rfl (by show d.inv≤x.time;omega) (fun z hz=>by
     unfold qY at hz
     split at hz
     ·obtain⟨s,hs',rfl⟩:=List.mem_map.1 hz
      rw[e1] at hs'
      exact⟨⟨hst,(hot.1 s hs').1⟩,rfl⟩
     ·cases hz) (fun u hu q=>(c2 u hu).2.1 (by rw[Ny];exact q.2.2.1.symm))
 ·rw[if_neg (by rw[gM hc];decide)]
  simp only[gV hg]
  exact h.pW hs.1 (d:=d) (d1:={d with void:=true,lin:=x.time,now:=x.w.now}) ht hop hpc hg hf0 ⟨d1,d2,d3,d4,d5,hw,.inr ⟨fun q=>by have:d.op=1:=q.1;omega,hcode⟩,.inr (by show d.inv≤x.time;omega),.inl rfl⟩ rfl rfl rfl rfl rfl rfl rfl rfl (by omega) (fun z hz=>by cases hz) (fun u hu q=>hc ⟨by rw[q.2.2.2];exact(kP (GK h.st hu)).2,by rw[q.2.2.2,(kP (GK h.st hu)).1];exact q.2.2.1.symm⟩)
end
end Go.Proofs.YtcgjihfngdhjjaaGreat
end
section
set_option linter.unusedSimpArgs false
set_option linter.unusedVariables false
namespace Go.Proofs.YtcgjihfngdhjjaaGreat
open Go Go.Ab
section
variable{x:Wld} {k:Nat} {t:Task}
theorem WI.xW (h:WI x) (hs:Sml x) (ht:x.tasks[k]? =some t) (hop:t.op=1) (vT:(timers x.w).length≤15) {y:Wld} (hy:jl x k t=some y):WI (cB y):=by
 obtain⟨hok,hk3,-,htp⟩:=task1 h ht hop
 have htk:=(h.tasks k t ht).2
 have hpc:=(h.tasks k t ht).1.1.2.1
 unfold jl at hy
 split at hy
 ·rename_i h0
  split at hy
  ·cases hy
  ·rename_i hf
   cases hy
   exact h.take hs (tr:=t.s.trace) (t':={t with pc:=1}) ht (by omega) (holds_none (by omega) (by omega)) (Lr h.n1 hop rfl) (by omega) (by simp) ⟨zi h ht hop (pc:=1) ⟨by decide,by decide⟩ (Mw (by omega) (by decide) htp),htk⟩ (Ck hop)
 ·split at hy
  ·rename_i h1
   exact h.look hs ht hop h1 vT hy
  ·split at hy
   ·rename_i h2
    exact h.akB hs ht hop h2 hy
   ·cases hy
    exact h.make hs ht hop (by omega)
theorem WI.xX (h:WI x) (hs:Sml x) (ht:x.tasks[k]? =some t) (hop:t.op=2) {y:Wld} (hy:jm x k t=some y):WI (cB y):=by
 have htk:=(h.tasks k t ht).2
 have hpc:=(h.tasks k t ht).1.1.2.1
 unfold jm at hy
 split at hy
 ·rename_i h0
  split at hy
  ·cases hy
  ·rename_i hf
   cases hy
   exact h.take hs (tr:=t.trace) (t':={t with pc:=1}) ht (by omega) (holds_none (by omega) (by omega)) (wP h.n1 (.inr ⟨hop,.inl rfl⟩)) (by omega) (by simp) ⟨UC h ht hop (by omega) ⟨by decide,by decide⟩,htk⟩ (Xa rfl (by simp) rfl rfl)
 ·split at hy
  ·rename_i h1
   split at hy
   ·cases hy
   ·rename_i hf
    cases hy
    exact h.on hs (r':=k) (t':={t with pc:=2}) ht ((wP (t:={t with pc:=2}) h.n1 (.inr ⟨hop,.inr rfl⟩)).trans (wP h.n1 (.inr ⟨hop,.inl h1⟩)).symm) (by rw[if_pos ⟨hop,rfl⟩]) (fun _ _=>by omega) ⟨UC h ht hop (by omega) ⟨by decide,by decide⟩,htk⟩ (Xa rfl (by simp) rfl rfl)
  ·split at hy
   ·rename_i h2
    cases hy
    exact h.say hs ht hop h2
   ·exact h.push hs ht hop (by omega) hy
end
end Go.Proofs.YtcgjihfngdhjjaaGreat
end
section
set_option linter.unusedSimpArgs false
set_option linter.unusedVariables false
namespace Go.Proofs.YtcgjihfngdhjjaaGreat
open Go Go.Ab
def dA (w:bn):Nat→bn × List Ab.Timer
 |0=>(w,[])
 |n+1=>((gL (dA w n).1).1,(dA w n).2++(gL (dA w n).1).2)
theorem zZ {w:bn} (h:WhI w):∀ (n:Nat),w.now+n≤2147483647→WhI (dA w n).1∧(dA w n).1.now=w.now+n∧(timers (dA w n).1++(dA w n).2).Perm (timers w)∧∀ t∈(dA w n).2,w.now < t.at_∧t.at_≤w.now+n
 |0,_=>⟨h,by simp[dA],by simp[dA],fun t ht=>by cases ht⟩
 |n+1,hn=>by
  obtain⟨a1,a2,a3,a4⟩:=zZ h n (by omega)
  obtain⟨b1,b2,b3,b4⟩:=Vt a1 (by omega)
  refine⟨b1,by show(gL (dA w n).1).1.now=_;omega,?_,fun t ht=>?_⟩
  ·show(timers (gL (dA w n).1).1++((dA w n).2++(gL (dA w n).1).2)).Perm _
   refine(List.Perm.append_left _ List.perm_append_comm).trans ?_
   rw[←List.append_assoc]
   exact(b3.append_right _).trans a3
  ·rcases List.mem_append.1 ht with q|q
   ·have:=a4 t q;omega
   ·have:=b4 t q;omega
section
variable{x:Wld}
theorem WI.tm (h:WI x) (hs:Sml x):WI (cB x):=by
 have h1:=h.time
 have h2:=hs.1
 have e:wr (x.time+1)=x.time+1:=xE (by omega) (by omega)
 have et:(cB x).time=x.time+1:=e
 refine⟨h.conf,by rw[et];omega,h.next,h.st,h.stl,h.b,h.bc,h.cache,h.used,h.budget,h.w,h.now,h.shut,h.ql,h.queue,h.out,fun d hd=>?_,h.tl,h.iX,h.cst,h.tms,h.tasks,h.dB⟩
 have:=h.aF d hd
 rw[et]
 exact⟨this.1,by omega,by omega,by omega⟩
theorem WI.whl (h:WI x) {w':bn} {mW:List Ab.Timer} (hw:WhI w') (h1:x.w.now≤w'.now) (h2:w'.now≤100000) (hp:(timers w'++mW).Perm (eO x)) (hsh:x.shut=true→timers w'=[]):WI {x with w:=w',due:=mW}:=by
 have hk:∀ id st,known x id st→known {x with w:=w',due:=mW} id st:=fun id st hk=>by
  rcases hk with⟨t,ht,q⟩|q
  ·exact .inl ⟨t,hp.mem_iff.2 ht,q⟩
  ·exact .inr q
 exact⟨h.conf,h.time,h.next,h.st,h.stl,h.b,⟨h.bc.1,h.bc.2.1,Int.le_trans h.bc.2.2 h1⟩,h.cache,h.used,h.budget,iw.2 hw,h2,hsh,h.ql,h.queue,h.out,h.aF,h.tl,fun t ht=>⟨(h.iX t ht).1,hk _ _ (h.iX t ht).2⟩,h.cst,fun t ht=>h.tms t (hp.mem_iff.1 ht),h.tasks,h.dB⟩
noncomputable def Ad (x:Wld) (n:Nat):Wld:=cB {x with w:=(dA x.w n).1,due:=x.due++(dA x.w n).2}
theorem WI.tick (h:WI x) (hs:Sml x) {n:Nat} (hn:x.w.now+n≤100000):WI (Ad x n):=by
 have hw:=iw.1 h.w
 obtain⟨a1,a2,a3,a4⟩:=zZ hw n (by omega)
 refine WI.tm (WI.whl h a1 (by omega) (by omega) ?_ fun q=>?_) hs
 ·unfold eO
  refine(List.Perm.append_left _ List.perm_append_comm).trans ?_
  rw[←List.append_assoc]
  exact a3.append_right _
 ·have:=h.shut q
  rw[this] at a3
  have:=a3.length_eq
  simp only[List.length_append,List.length_nil] at this
  exact List.length_eq_zero_iff.1 (by omega)
def pO (x:Wld):Option Wld:=match x.queue with
 |[]=>none
 |y::ys=>some (cB {x with out:=x.out++[y],queue:=ys})
theorem WI.MV (h:WI x) (hs:Sml x) {y:Wld} (hy:pO x=some y):WI y:=by
 unfold pO at hy
 split at hy
 ·cases hy
 ·rename_i a ys hq
  cases hy
  have hl:=h.ql
  have hqu:=h.queue
  rw[hq] at hl hqu
  simp only[List.length_cons] at hl
  refine WI.tm (x:={x with out:=x.out++[a],queue:=ys}) ⟨h.conf,h.time,h.next,h.st,h.stl,h.b,h.bc,h.cache,h.used,h.budget,h.w,h.now,h.shut,by show(ys.length:Int)≤x.c.queue;omega,fun z hz=>hqu z (List.mem_cons_of_mem _ hz),fun z hz=>?_,h.aF,h.tl,h.iX,h.cst,h.tms,h.tasks,h.dB⟩ hs
  rcases List.mem_append.1 hz with q|q
  ·exact h.out z q
  ·rw[List.mem_singleton.1 q];exact hqu a (by simp)
def nC (now:Int):bn:=⟨now,List.replicate 8 [],List.replicate 8 [],[]⟩
theorem BD (now:Int):timers (nC now)=[]:=rfl
theorem Ua {now:Int} (h:0≤now∧now≤2147483647):WhI (nC now):=by
 refine⟨h,rfl,rfl,fun t ht=>(by cases ht),fun i a ha t ht=>?_,fun i a ha t ht=>?_,by rw[BD];exact List.nodup_nil,by rw[BD];exact Nat.zero_le _⟩
 ·have:=List.mem_replicate.1 (List.mem_of_getElem? ha)
  rw[this.2] at ht;cases ht
 ·have:=List.mem_replicate.1 (List.mem_of_getElem? ha)
  rw[this.2] at ht;cases ht
def xI (x:Wld):aW:=⟨4,0,iA,0,0,0,false,false,0,0,0,x.w.now,x.time,x.time,x.time⟩
def nO (x:Wld):Option Wld:=if x.shut=true then none else some (cB {x with shut:=true,due:=x.due++timers x.w,w:=nC x.w.now,aF:=x.aF++[xI x]})
theorem WI.CY (h:WI x) (hs:Sml x) {y:Wld} (hy:nO x=some y):WI y:=by
 unfold nO at hy
 split at hy
 ·cases hy
 ·cases hy
  have hw:=iw.1 h.w
  have iD:=hw.now
  have h1:=WI.whl h (w':=nC x.w.now) (mW:=x.due++timers x.w) (Ua iD) (Int.le_refl _) h.now (by rw[BD,List.nil_append];exact List.perm_append_comm) fun _=>rfl
  have h2:WI {x with shut:=true,due:=x.due++timers x.w,w:=nC x.w.now}:=⟨h1.conf,h1.time,h1.next,h1.st,h1.stl,h1.b,h1.bc,h1.cache,h1.used,h1.budget,h1.w,h1.now,fun _=>rfl,h1.ql,h1.queue,h1.out,h1.aF,h1.tl,h1.iX,h1.cst,h1.tms,h1.tasks,h1.dB⟩
  have h3:=WI.tm h2 hs
  have ht:=h.time
  have e:wr (x.time+1)=x.time+1:=xE (by omega) (by have:=hs.1;omega)
  have et:(cB {x with shut:=true,due:=x.due++timers x.w,w:=nC x.w.now}).time=x.time+1:=e
  exact WI.more h3 (d:=xI x) (by unfold jL xI;simp;omega) (by rw[et];show x.time < _;omega) (by rw[et];show x.time < _;omega) (by rw[et];show x.time < _;omega)
end
end Go.Proofs.YtcgjihfngdhjjaaGreat
end
