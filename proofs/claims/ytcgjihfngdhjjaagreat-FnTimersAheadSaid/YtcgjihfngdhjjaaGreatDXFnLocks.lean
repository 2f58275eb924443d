import Derived.Test.YtcgjihfngdhjjaaGreatDW141
import Derived.Test.YtcgjihfngdhjjaaGreatDW46
import Derived.Test.YtcgjihfngdhjjaaGreatDW121
import Derived.Test.YtcgjihfngdhjjaaGreatDW60
import Derived.Test.YtcgjihfngdhjjaaGreatDKW2
section
set_option linter.unusedSimpArgs false
set_option linter.unusedVariables false
set_option maxHeartbeats 4000000
set_option maxRecDepth 20000
namespace Go.Proofs.YtcgjihfngdhjjaaGreat
open Go Go.Ab
section
def KA (x0 x1:AV):Prog:=Ln 0 x0 fun a=>Bn .quo a (.int .i64 12) fun a=>Bn .add (.int .i64 3) a fun a=>Bn .gtr a x1 fun b=>.ite b (.fin [.val x1]) (.fin [.val a])
theorem RZ (x0 x1:AV):CC Tryz.prog Fv [x0,x1] (KA x0 x1):=cc Tryz.func44
def OE (x0:AV):Prog:=.op (.alloc jh) fun a=>Cl FT [x0] fun b=>Cl Fv [x0,.int .i64 90] fun c=>Bn .add (.int .i64 40) c fun c=>Cl JX [b,c] fun b=>.op (.st 32 a b) fun _=>.fin [.cn 32 a]
theorem aaS (x0:AV):CC Tryz.prog AP [x0] (OE x0):=cc Tryz.func10
end
theorem abU {h:AH} {l:List UInt8} {v:AV} {F:List Nat} (hs:l.length≤1048576) (r:ah h v l F) {m:Int} (h0:0≤m) (h1:m < 1048576):bq Tryz.prog Fv [v,.int .i64 m] h fun u h'=>∃ x:Int,u= .int .i64 x∧0≤x∧x≤100000∧h'=h:=by
 obtain⟨x,hx0,hx1,c⟩:∃ x:Int,0≤x∧x≤100000∧aP Tryz.prog Fv [v,.int .i64 m] h (.int .i64 x):=by
  have e:(0:Int)≤(l.length:Int) / 12∧(l.length:Int) / 12≤87382:=by omega
  by_cases q:3+(l.length:Int) / 12 > m
  ·refine⟨m,h0,by omega,?_⟩
   refine reader (RZ _ _) (by simp only[old]) ?_
   unfold KA
   (repeat' first|refine vs ?_|(refine br ?_ ?_<;>first|exact bo|intro _)|fail)
   all_goals exact pi rfl
  ·refine⟨3+(l.length:Int) / 12,by omega,by omega,?_⟩
   refine reader (RZ _ _) (by simp only[old]) ?_
   unfold KA
   (repeat' first|refine vs ?_|(refine br ?_ ?_<;>first|exact bo|intro _)|fail)
   all_goals exact pi rfl
 refine bq.mono c ?_
 rintro _ _ ⟨rfl,rfl⟩
 exact⟨x,rfl,hx0,hx1,rfl⟩
def DwW (h:AH):AV→AH→Prop:=fun u h'=>∃ y cs F,u= .agg cs∧Cel.rep h' y cs F∧Own h.n h' F∧Ext h h'∧RI 151 1300 y
theorem JJ {h:AH} {l:List UInt8} {v:AV} {F:List Nat} (hs:l.length≤1048576) (r:ah h v l F):bq Tryz.prog AP [v] h (DwW h):=by
 refine aaS _ ?_
 unfold OE
 (repeat' first|refine vs0 ?_|((with_reducible refine aG FT ?_);(refine aL (aes hs aB) ?_;rintro _ h1 ⟨c,rfl,e1,lc,cu1⟩;have n1:=e1.1;(try simp only[aJ,aN] at n1);(try simp only[aJ,aN] at lc);have lc2:=cu1.lt))|fail)
 refine aL (abU hs aB (by decide) (by decide)) ?_
 rintro _ _ ⟨q,rfl,hq0,hq1,rfl⟩
 refine sQ (by omega) (by omega) ?_
 refine aL (aa7 cu1 (by omega) (by omega)) ?_
 rintro _ h3 ⟨y,cs,F2,rfl,r3,o3,k3,cu3,hR⟩
 have n3:=k3.1
 have lcs:cs.length=32:=Cel.len r3
 have lt:=Cel.lt r3
 have E3:Ext h h3:=aiD k3 (by omega) ahu
 have z3:Bk h3 h.n [AV.int .i64 0,AV.int .i64 0,AV.int .i64 0,AV.int .i64 0,AV.int .i64 0,AV.int .i64 0,AV.int .i64 0,AV.int .i64 0,AV.int .i64 0,AV.str ⟨#[]⟩,AV.str ⟨#[]⟩,AV.aA,AV.int .i64 0,AV.bool false,AV.aA,AV.int .i64 0,AV.int .i64 0,AV.int .i64 0,AV.int .i64 0,AV.int .i64 0,AV.aA,AV.int .i64 0,AV.int .i64 0,AV.aA,AV.aA,AV.aA,AV.aA,AV.aA,AV.aA,AV.aA,AV.aA,AV.int .i64 0] 0:=bI k3 (fq e1 gF) (iL (by omega))
 refine xC z3 rfl lcs ?_
 refine LU (HY (gG z3.1) lcs) ?_
 have nz:h.n ∉ F2:=fun q=>by have:=(o3.2 _ q).1;omega
 exact⟨rfl,_,rfl,y,cs,F2,rfl,sZ gU r3 fun d hd hm=>nz (List.mem_singleton.1 hm▸hd),((dM ⟨o3,lt⟩ nz).1).mono (by omega) fun _ _=>rfl,E3.upd (Nat.le_refl _) _,hR⟩
end Go.Proofs.YtcgjihfngdhjjaaGreat
end
section
set_option linter.unusedSimpArgs false
set_option linter.unusedVariables false
namespace Go.Proofs.YtcgjihfngdhjjaaGreat
open Go Go.Ab
def sP (s:aR):Bool:=decide (s.held≠-1)
def qK (n:Int) (t:Task):Bool:=decide (0≤bJ t n)
def places {α:Type} (p:α→Bool) (l:List α):List Nat:=(List.range l.length).filter fun i=>match l[i]? with
 |some a=>p a
 |none=>false
theorem mem_places {α:Type} {p:α→Bool} {l:List α} {i:Nat}:i∈places p l↔∃ a,l[i]? =some a∧p a=true:=by
 unfold places
 rw[List.mem_filter,List.mem_range]
 constructor
 ·rintro⟨h1,h2⟩
  rw[List.getElem?_eq_getElem h1] at h2
  exact⟨l[i],List.getElem?_eq_getElem h1,h2⟩
 ·rintro⟨a,h1,h2⟩
  exact⟨(List.getElem?_eq_some_iff.1 h1).1,by rw[h1];exact h2⟩
theorem Ui {α:Type} {p:α→Bool} {l:List α}:(places p l).Nodup:=List.Nodup.sublist List.filter_sublist List.nodup_range
theorem afb {α:Type} {p:α→Bool} {l:List α} {a:α}:places p (l++[a])=places p l++if p a=true then[l.length] else[]:=by
 unfold places
 rw[List.length_append,List.length_singleton,List.range_succ,List.filter_append]
 congr 1
 ·refine List.filter_congr fun i hi=>?_
  have hi:=List.mem_range.1 hi
  rw[List.getElem?_append_left hi]
 ·simp only[List.filter_cons,List.filter_nil,List.getElem?_append_right (Nat.le_refl _),Nat.sub_self,List.getElem?_cons_zero]
theorem TA {α:Type} {p:α→Bool} (l:List α):(places p l).length=(l.filter p).length:=by
 obtain⟨m,hm⟩:∃ m,m=l.reverse:=⟨_,rfl⟩
 have e:l=m.reverse:=by rw[hm,List.reverse_reverse]
 rw[e]
 clear e hm
 induction m with
 |nil=>rfl
 |cons a m ih=>
  rw[List.reverse_cons,afb,List.filter_append,List.length_append,List.length_append,ih]
  by_cases h:p a=true
  ·simp[h]
  ·simp[h]
theorem Ul {l m:List Nat} (h:l.Nodup) (hm:∀ a∈l,a∈m):l.length≤m.length:=by
 have:=GD (l:=l.map Int.ofNat) (m:=m.map Int.ofNat) (by
  unfold List.Nodup at h ⊢
  exact List.Pairwise.map _ (fun a b hab e=>hab (by injection e)) h) fun a ha=>by
  obtain⟨b,hb,e⟩:=List.mem_map.1 ha
  exact List.mem_map.2 ⟨b,hm b hb,e⟩
 simpa using this
theorem TQ {l:List Nat} {f:Nat→Nat} (h:l.Nodup) (hf:∀ a∈l,∀ b∈l,f a=f b→a=b):(l.map f).Nodup:=by
 unfold List.Nodup at h ⊢
 rw[List.pairwise_map]
 refine List.Pairwise.imp_of_mem (fun ha hb hab e=>hab (hf _ ha _ hb e)) h
section
variable{x:Wld}
theorem WI.fw (h:WI x) {i:Nat} {s:aR} (hs:x.st[i]? =some s) (hne:s.held≠-1):∃ t,x.tasks[s.held.toNat]? =some t∧bJ t x.st.length=(i:Int)∧(s.held.toNat:Int)=s.held:=by
 obtain⟨h1,h2⟩:=h.dB.1 i s hs
 rcases h1 with q|⟨k,hk,e⟩
 ·exact absurd q hne
 ·have e2:s.held.toNat=k:=by omega
  rw[e2]
  exact⟨x.tasks[k],List.getElem?_eq_getElem hk,(h2 k _ (List.getElem?_eq_getElem hk)).2 e,e.symm⟩
theorem WI.bw (h:WI x) {k:Nat} {t:Task} (ht:x.tasks[k]? =some t) (h0:0≤bJ t x.st.length):∃ s,x.st[(bJ t x.st.length).toNat]? =some s∧s.held=(k:Int):=by
 have hb:=(Mf t x.st.length).2 h0
 have hl:(bJ t x.st.length).toNat < x.st.length:=by omega
 refine⟨x.st[(bJ t x.st.length).toNat],List.getElem?_eq_getElem hl,?_⟩
 exact((h.dB.1 _ _ (List.getElem?_eq_getElem hl)).2 k t ht).1 (by omega)
theorem WI.pairs (h:WI x):(x.st.filter sP).length=(x.tasks.filter (qK x.st.length)).length:=by
 rw[←TA,←TA]
 refine Nat.le_antisymm ?_ ?_
 ·have f:∃ f:Nat→Nat,∀ (i:Nat) (s:aR),x.st[i]? =some s→f i=s.held.toNat:=⟨fun i=>match x.st[i]? with|some s=>s.held.toNat|none=>0,fun i s hs=>by simp only[hs]⟩
  obtain⟨f,hf⟩:=f
  have hin:∀ a∈places sP x.st,∃ s t,x.st[a]? =some s∧s.held≠-1∧f a=s.held.toNat∧x.tasks[f a]? =some t∧bJ t x.st.length=(a:Int):=fun a ha=>by
   obtain⟨s,hs,hp⟩:=mem_places.1 ha
   have hne:s.held≠-1:=of_decide_eq_true hp
   obtain⟨t,ht,e1,e2⟩:=h.fw hs hne
   exact⟨s,t,hs,hne,hf a s hs,by rw[hf a s hs];exact ht,e1⟩
  have h1:=TQ (f:=f) (Ui (p:=sP) (l:=x.st)) fun a ha b hb e=>by
   obtain⟨s,t,-,-,-,ht,et⟩:=hin a ha
   obtain⟨s',t',-,-,-,ht',et'⟩:=hin b hb
   rw[←e,ht] at ht';cases ht'
   rw[et] at et';omega
  have:=Ul (m:=places (qK x.st.length) x.tasks) h1 fun c hc=>by
   obtain⟨a,ha,rfl⟩:=List.mem_map.1 hc
   obtain⟨s,t,-,-,-,ht,et⟩:=hin a ha
   exact mem_places.2 ⟨t,ht,decide_eq_true (by omega)⟩
  simpa using this
 ·have g:∃ g:Nat→Nat,∀ (k:Nat) (t:Task),x.tasks[k]? =some t→g k=(bJ t x.st.length).toNat:=⟨fun k=>match x.tasks[k]? with|some t=>(bJ t x.st.length).toNat|none=>0,fun k t ht=>by simp only[ht]⟩
  obtain⟨g,hg⟩:=g
  have hin:∀ a∈places (qK x.st.length) x.tasks,∃ s,x.st[g a]? =some s∧s.held=(a:Int):=fun a ha=>by
   obtain⟨t,ht,hp⟩:=mem_places.1 ha
   obtain⟨s,hs,e⟩:=h.bw ht (of_decide_eq_true hp)
   exact⟨s,by rw[hg a t ht];exact hs,e⟩
  have h1:=TQ (f:=g) (Ui (p:=qK x.st.length) (l:=x.tasks)) fun a ha b hb e=>by
   obtain⟨s,hs,es⟩:=hin a ha
   obtain⟨s',hs',es'⟩:=hin b hb
   rw[←e,hs] at hs';cases hs'
   omega
  have:=Ul (m:=places sP x.st) h1 fun c hc=>by
   obtain⟨a,ha,rfl⟩:=List.mem_map.1 hc
   obtain⟨s,hs,es⟩:=hin a ha
   exact mem_places.2 ⟨s,hs,decide_eq_true (by omega)⟩
  simpa using this
theorem Ti:∀ l:List Task,jZ l=(l.filter fun t=>decide (t.op≠0)).length
 |[]=>rfl
 |t::l=>by
  rw[jZ,Ti l,List.filter_cons]
  by_cases h:t.op≠0
  ·simp[h];omega
  ·simp[h]
theorem filter_le {p q:Task→Bool} (h:∀ t,p t=true→q t=true):∀ l:List Task,(l.filter p).length≤(l.filter q).length
 |[]=>Nat.le_refl _
 |t::l=>by
  have:=filter_le h l
  rw[List.filter_cons,List.filter_cons]
  by_cases hp:p t=true
  ·rw[if_pos hp,if_pos (h t hp)];simpa using this
  ·rw[if_neg hp]
   split
   ·exact Nat.le_trans this (Nat.le_succ _)
   ·exact this
theorem afG {n:Int} (l:List Task):(l.filter (qK n)).length≤jZ l:=by
 rw[Ti]
 refine filter_le (fun t ht=>?_) l
 refine decide_eq_true fun e=>?_
 have h0:=of_decide_eq_true ht
 unfold bJ at h0
 split at h0
 ·omega
 ·split at h0
  ·omega
  ·split at h0<;>omega
end
end Go.Proofs.YtcgjihfngdhjjaaGreat
end
section
set_option linter.unusedSimpArgs false
set_option linter.unusedVariables false
set_option maxHeartbeats 4000000
set_option maxRecDepth 20000
namespace Go.Proofs.YtcgjihfngdhjjaaGreat
open Go Go.Ab
section
def Qz (x0:AV):Prog:=Cl Bu [x0] fun a=>.ite a (.fin [.val (.bool true)]) (Cl AP [x0] fun a=>.op (.alloc jh) fun b=>.op (.st 32 b a) fun _=>.loop [.int .i64 0,.int .i64 0] (fun a=>Lg 14 b fun c=>Ln 0 c fun c=>Bn .lss (g a 1) c fun c=>.ite c (.scope (Lg 14 b fun c=>Ix 2 c (g a 1) fun c=>Lg 0 c fun c=>.op (.bin 0 .eql c (.int .i64 (-1))) fun c=>.ite c (.leaf 0 [g a 0]) (Bn .add (g a 0) (.int .i64 1) fun c=>Lg 29 b fun d=>Lg 14 b fun e=>Ix 2 e (g a 1) fun e=>Lg 0 e fun e=>Ix 12 d e fun d=>Ld 12 d fun d=>Lg 14 b fun b=>Ln 0 b fun b=>Cl qz [d,b] fun b=>Bn .neq b (g a 1) fun a=>.ite a (.fin [.val (.bool false)]) (.leaf 0 [c]))) (fun b=>Bn .add (g a 1) (.int .i64 1) fun a=>.leaf 0 [g b 0,a]) fun a b=>aC a 1 (.leaf 1 b) .bad) (.leaf 2 [g a 0,g a 1])) fun a c=>aC a 1 (.leaf 1 c) (aC a 2 (.loop [.int .i64 0,.int .i64 0] (fun a=>Lg 29 b fun c=>Ln 0 c fun c=>Bn .lss (g a 1) c fun c=>.ite c (Lg 29 b fun c=>Ix 12 c (g a 1) fun c=>Ld 12 c fun c=>Lg 14 b fun d=>Ln 0 d fun d=>Cl qz [c,d] fun c=>Bn .geq c (.int .i64 0) fun c=>.scope (.ite c (Bn .add (g a 0) (.int .i64 1) fun a=>.leaf 0 [a]) (.leaf 0 [g a 0])) (fun c=>Lg 29 b fun d=>Ix 12 d (g a 1) fun d=>Ld 12 d fun d=>.op (.fad 15 b) fun b=>.op (.ld1 b) fun e=>Bn .eql e (g a 1) fun f=>Cl kU [d] fun d=>.chk (.ld1 b) e (.op (.bin 2 .neq d f) fun b=>.ite b (.fin [.val (.bool false)]) (Bn .add (g a 1) (.int .i64 1) fun a=>.leaf 0 [g c 0,a]))) fun a b=>aC a 1 (.leaf 1 b) .bad) (.leaf 4 [g a 0,g a 1])) fun a d=>aC a 1 (.leaf 1 d) (aC a 4 (Ld 32 b fun a=>Cl l7 [a] fun a=>.gop a true (.mv (g c 0)) fun e=>.gop a true (.mv (g d 0)) fun d=>.gop a true (.bin 0 .eql e d) fun d=>Pk a d (.bool false) fun a=>.gop a true (.mv (g c 0)) fun c=>.gop a true (.ldn 32 b) fun b=>.gop a true (.call FY [b]) fun b=>.gop a true (.bin 0 .leq c b) fun b=>Pk a b (.bool false) fun a=>.fin [.val a]) .bad)) .bad))
theorem acX (x0:AV):CC Tryz.prog QO [x0] (Qz x0):=cc Tryz.func3 [3,4,5,6,7] (fun r=>if r=10 then[(0,[]),(1,[]),(2,[]),(3,[]),(4,[]),(5,[]),(6,[]),(7,[]),(8,[]),(9,[]),(10,[]),(11,[]),(12,[]),(14,[]),(13,[]),(15,[])] else if r=16 then[(0,[]),(1,[]),(2,[]),(3,[]),(4,[]),(5,[]),(6,[]),(7,[]),(8,[]),(9,[])] else if r=18 then[(0,[]),(1,[]),(2,[]),(3,[]),(4,[]),(6,[]),(7,[]),(8,[]),(9,[]),(5,[7]),(10,[])] else[])
end
theorem YJ {α:Type} {p:α→Bool} {l:List α} {i:Nat} {a:α} (h:l.take (i+1)=l.take i++[a]):((l.take (i+1)).filter p).length=((l.take i).filter p).length+if p a=true then 1 else 0:=by
 rw[h,List.filter_append,List.length_append]
 cases e:p a<;>simp[List.filter,e]
theorem YK {α:Type} {p:α→Bool} {l:List α} {i:Nat}:((l.take i).filter p).length≤i:=Nat.le_trans (List.length_filter_le _ _) (by rw[List.length_take];omega)
theorem aff {h:AH} {v0:AV} {x0:List UInt8} {F0:List Nat} (r0:ah h v0 x0 F0) (k0:∀ x∈x0,Cel.ok x):aP Tryz.prog QO [v0] h (.bool true):=by
 refine reader (acX _) (by simp only[old]) ?_
 unfold Qz
 refine dS (KY r0) ?_ ?_<;>intro hn<;>first|replace hn:=oU hn|replace hn:=wR hn
 ·(repeat' first|refine vs ?_|fail)
  exact pb rfl
 have hs:x0.length≤1048576:=by omega
 clear hn k0
 refine vs ?_
 refine aL (JJ hs aB) ?_
 rintro _ h1 ⟨x,cs,F,rfl,rp,o1,e1,hR⟩
 have n1:=e1.1
 obtain⟨ok,hz⟩:=hR.fit (by decide) (by decide)
 have hI:=hR.wi
 have h5:=hI.tl
 have l1:cs.length=32:=Cel.len rp
 (repeat' first|refine vs ?_|((with_reducible refine akb ?_);refine zU (by assumption) (by rfl) ?_)|fail)
 have bk:Bk (h1.push ⟨cs,0,0⟩) h1.n cs 0:=aO
 have e2:Ext h1 (h1.push ⟨cs,0,0⟩):=aI
 generalize (h1.push ⟨cs,0,0⟩:AH)=h2 at bk e2 ⊢
 have n2:=e2.1
 have rx:Cel.rep h2 x cs F:=jJ rp e2
 have ry:=rx
 clear rp r0 o1
 obtain⟨v0,v1,v2,v3,v4,v5,v6,v7,v8,v9,v10,F0,F1,F2,F3,F4,F5,F6,F7,F8,F9,F10,rfl,rfl,r0,r1,r2,r3,r4,r5,r6,r7,r8,r9,r10⟩:=ry
 have bk:Bk h2 h1.n [AV.int .i64 x.c.dK,AV.int .i64 x.c.wait,AV.int .i64 x.c.budget,AV.int .i64 x.c.cache,AV.int .i64 x.c.queue,AV.int .i64 x.c.rate,AV.int .i64 x.c.aZ,AV.int .i64 x.c.rule.kind,AV.int .i64 x.c.rule.n,AV.str x.c.rule.key,AV.str x.c.rule.text,v0,AV.int .i64 x.time,AV.bool x.shut,v1,AV.int .i64 x.bg,AV.int .i64 x.b.rate,AV.int .i64 x.b.aZ,AV.int .i64 x.b.tokens,AV.int .i64 x.b.at_,v2,AV.int .i64 x.used,AV.int .i64 x.w.now,v3,v4,v5,v6,v7,v8,v9,v10,AV.int .i64 x.next] 0:=bk
 have s9:ah h2 v9 x.tasks F9:=r9
 have q7:=r7.small
 have q9:=r9.small
 have s1:ah h2 v1 x.st F1:=r1
 have q1:=r1.small
 have cO:aP Tryz.prog l7 [.agg _] h2 (.bool true):=fK (KP.2 hI)▸Ka ok (by omega) rx
 refine aX x.st.length (fun i vs h'=>vs=[.int .i64 (((x.st.take i).filter sP).length:Nat),.int .i64 (i:Int)]∧i≤x.st.length∧h'=h2) ⟨rfl,Nat.zero_le _,rfl⟩ ?_
 rintro i vs h' _ ⟨rfl,hi,rfl⟩
 simp only[g0,g1]
 have hb:=YK (p:=sP) (l:=x.st) (i:=i)
 (repeat' first|refine vs0 ?_|fail)
 refine br (fun q=>?_) (fun q=>?_)
 ·obtain⟨s,hsi,-,htk⟩:=aU (show i < x.st.length by omega)
  have hc:=YJ (p:=sP) htk
  by_cases hh:s.held= -1
  ·rw[if_neg (by simp[sP,hh])] at hc
   (repeat' first|refine vs ?_|(refine br ?_ ?_<;>first|exact bo|intro _)|((with_reducible refine bB ?_);((refine ix ?_);rintro _ _ _ _ _ ⟨_,rfl,_⟩ _))|fail)
   all_goals exact⟨by omega,by rw[hc];rfl,by omega,rfl⟩
  ·rw[if_pos (by simp[sP,hh])] at hc
   obtain⟨t,ht,ho,hn⟩:=hI.fw hsi hh
   (repeat' first|refine vs ?_|(refine br ?_ ?_<;>first|exact bo|intro _)|((with_reducible refine aG qz ?_);refine aQ yB ?_)|((with_reducible refine bB ?_);((first|refine ix ?_|refine ixi ?_);first|rintro _ _ _ _ _ ⟨_,rfl,_⟩ _|rintro _ _ _ _ _ ⟨_,_,_,_,rfl,rfl,_,_⟩ _))|fail)
   all_goals exact⟨by omega,by rw[hc];rfl,by omega,rfl⟩
 ·have e:i=x.st.length:=by omega
  subst e
  rw[List.take_length] at hb ⊢
  (repeat' first|refine vs ?_|refine gS ?_|fail)
  refine aX x.tasks.length (fun i vs h2=>vs=[.int .i64 (((x.tasks.take i).filter (qK x.st.length)).length:Nat),.int .i64 (i:Int)]∧i≤x.tasks.length∧h2=h') ⟨rfl,Nat.zero_le _,rfl⟩ ?_
  rintro i vs h2 _ ⟨rfl,hi2,rfl⟩
  simp only[g0,g1]
  have hb2:=YK (p:=qK x.st.length) (l:=x.tasks) (i:=i)
  (repeat' first|refine vs0 ?_|fail)
  refine br (fun q=>?_) (fun q=>?_)
  ·obtain⟨t,ht,-,htk⟩:=aU (show i < x.tasks.length by omega)
   have hc:=YJ (p:=qK x.st.length) htk
   have hr:=hI.dB.2.2 i t ht
   have fin:∀ b:Bool,(x.bg=(i:Int)↔b=true)→bp (t.op=2∧t.pc=2)=b:=fun b hb=>by
    cases b with
    |true=>exact fK (hr.2 (hb.2 rfl))
    |false=>exact gM fun c=>Bool.noConfusion (hb.1 (hr.1 c))
   by_cases hh:0≤bJ t x.st.length
   ·rw[if_pos (by simp[qK,hh])] at hc
    by_cases hR:x.bg=(i:Int)
    ·have cR:∀ {v v':AV},aP Tryz.prog kU [.agg (t.cs v v')] h2 (.bool true):=fun{v v'}=>fin true (by simp[hR])▸yD
     (repeat' first|refine vs ?_|((with_reducible refine aG kU ?_);refine aQ cR ?_)|(refine br ?_ ?_<;>first|exact bo|intro _)|((with_reducible refine aG qz ?_);refine aQ yB ?_)|((with_reducible refine bB ?_);((refine ix ?_);rintro _ _ _ _ _ ⟨_,_,_,_,rfl,rfl,_,_⟩ _))|fail)
     all_goals exact⟨by omega,by rw[hc];rfl,by omega,rfl⟩
    ·have cR:∀ {v v':AV},aP Tryz.prog kU [.agg (t.cs v v')] h2 (.bool false):=fun{v v'}=>fin false (by simp[hR])▸yD
     (repeat' first|refine vs ?_|((with_reducible refine aG kU ?_);refine aQ cR ?_)|(refine br ?_ ?_<;>first|exact bo|intro _)|((with_reducible refine aG qz ?_);refine aQ yB ?_)|((with_reducible refine bB ?_);((refine ix ?_);rintro _ _ _ _ _ ⟨_,_,_,_,rfl,rfl,_,_⟩ _))|fail)
     all_goals exact⟨by omega,by rw[hc];rfl,by omega,rfl⟩
   ·rw[if_neg (by simp[qK,hh])] at hc
    by_cases hR:x.bg=(i:Int)
    ·have cR:∀ {v v':AV},aP Tryz.prog kU [.agg (t.cs v v')] h2 (.bool true):=fun{v v'}=>fin true (by simp[hR])▸yD
     (repeat' first|refine vs ?_|((with_reducible refine aG kU ?_);refine aQ cR ?_)|(refine br ?_ ?_<;>first|exact bo|intro _)|((with_reducible refine aG qz ?_);refine aQ yB ?_)|((with_reducible refine bB ?_);((refine ix ?_);rintro _ _ _ _ _ ⟨_,_,_,_,rfl,rfl,_,_⟩ _))|fail)
     all_goals exact⟨by omega,by rw[hc];rfl,by omega,rfl⟩
    ·have cR:∀ {v v':AV},aP Tryz.prog kU [.agg (t.cs v v')] h2 (.bool false):=fun{v v'}=>fin false (by simp[hR])▸yD
     (repeat' first|refine vs ?_|((with_reducible refine aG kU ?_);refine aQ cR ?_)|(refine br ?_ ?_<;>first|exact bo|intro _)|((with_reducible refine aG qz ?_);refine aQ yB ?_)|((with_reducible refine bB ?_);((refine ix ?_);rintro _ _ _ _ _ ⟨_,_,_,_,rfl,rfl,_,_⟩ _))|fail)
     all_goals exact⟨by omega,by rw[hc];rfl,by omega,rfl⟩
  ·have e:i=x.tasks.length:=by omega
   subst e
   rw[List.take_length,←hI.pairs]
   have hl:=afG (n:=x.st.length) x.tasks
   rw[←hI.pairs] at hl
   (repeat' first|refine vs ?_|((with_reducible refine aG l7 ?_);refine aQ cO ?_)|(refine br ?_ ?_<;>first|exact bo|intro _)|((with_reducible refine aG FY ?_);refine aQ (ae6 rx) ?_)|refine gS ?_|fail)
   all_goals exact pb rfl
end Go.Proofs.YtcgjihfngdhjjaaGreat
end
