import Derived.Shelf.Spec.SlicesInsert
import Derived.WalkKit
import Derived.Lib.Walk
import Derived.Lib.SliceRun
import Derived.Lib.Overlaps
import Derived.Lib.AppendZerosOnto
import Derived.Laws.Externs
import Derived.Laws.IdiomCopy
import Derived.Laws.CopyRow
import Derived.Laws.NewBlocks
import Derived.Test.YtcgjihfngdhjjaaGreatDNm
import Derived.Test.YtcgjihfngdhjjaaGreatDKW1
import Derived.Test.YtcgjihfngdhjjaaGreatDK5
set_option linter.unusedSimpArgs false
set_option linter.unusedVariables false
section
namespace Go.Proofs.YtcgjihfngdhjjaaGreat
open Go Go.RowKit Go.Lib Go.Ab
section
end
end Go.Proofs.YtcgjihfngdhjjaaGreat
end
section
set_option maxHeartbeats 2000000
namespace Go.Proofs.YtcgjihfngdhjjaaGreat
open Go Go.Ab
section
def SF (x0 x1 x2 x3:AV):Prog:=.op (.box x1) fun a=>Cl wF [x0] fun b=>Lg 0 a fun c=>Cl yG [x0,c] fun c=>Bn .geq c (.int .i64 0) fun d=>.ite d (Ix 4 b c fun d=>.op (.fad 3 d) fun d=>.op (.ld1 d) fun e=>Ld 6 a fun a=>Cl kH [a] fun a=>.chk (.ld1 d) e (.op (.aS 6 1 jT [(0,6,a)]) fun a=>.op (.app 6 64 e a) fun a=>Ix 4 b c fun c=>Sg 3 c a fun _=>.fin [.val b])) (.loop [.int .i64 0] (fun b=>Ln 0 x0 fun c=>Bn .lss (g b 0) c fun c=>.gop c true (.mv x0) fun d=>.gop c true (.mv (g b 0)) fun e=>.gop c true (.idx 4 d e) fun d=>Gf c true 0 d fun d=>Gf c true 0 a fun a=>.gop c true (.bin 0 .leq d a) fun a=>Pk c a (.bool false) fun a=>.ite a (Bn .add (g b 0) (.int .i64 1) fun a=>.leaf 0 [a]) (.leaf 2 [g b 0])) fun b c=>aC b 1 (.leaf 1 c) (aC b 2 (.op (.fad 0 a) fun b=>.op (.ld1 b) fun d=>Ld 6 a fun a=>.op (.alloc [.int .i64 0,.int .i64 0,.int .i64 0,.aA]) fun e=>Cl kH [a] fun a=>.chk (.ld1 b) d (.chk (.alloc [.int .i64 0,.int .i64 0,.int .i64 0,.aA]) e (.op (.aS 6 1 jT [(0,6,a)]) fun a=>.op (.build [.int .i64 0,.int .i64 0,.int .i64 0,.aA] [(0,1,d),(1,1,x2),(2,1,x3),(3,1,a)]) fun a=>.op (.st 4 e a) fun _=>.op (.slc 4 x0 none (some (g c 0)) none) fun a=>Ld 4 e fun b=>.op (.aS 4 1 [.int .i64 0,.int .i64 0,.int .i64 0,.aA] [(0,4,b)]) fun d=>.op (.slc 4 x0 (some (g c 0)) none none) fun f=>Cl wF [a] fun a=>.chk (.ldn 4 e) b (.chk (.aS 4 1 [.int .i64 0,.int .i64 0,.int .i64 0,.aA] [(0,4,b)]) d (.chk (.slc 4 x0 (some (g c 0)) none none) f (.op (.app 4 48 a d) fun a=>.chk (.slc 4 x0 (some (g c 0)) none none) f (Cl wF [f] fun b=>.op (.app 4 48 a b) fun a=>.fin [.val a]))))))) .bad))
theorem aeW (x0 x1 x2 x3:AV):CC Tryz.prog KM [x0,x1,x2,x3] (SF x0 x1 x2 x3):=cc Tryz.func276 [0,2,3,5,10] (fun r=>if r=4 then[(0,[]),(1,[]),(2,[]),(3,[]),(4,[]),(5,[]),(6,[]),(7,[]),(8,[6]),(9,[]),(10,[]),(11,[]),(12,[]),(13,[])] else if r=7 then[(0,[]),(1,[]),(2,[]),(3,[]),(4,[]),(5,[]),(6,[]),(7,[]),(8,[]),(9,[]),(10,[]),(11,[]),(12,[]),(13,[])] else if r=9 then[(0,[]),(1,[]),(2,[]),(3,[]),(4,[]),(8,[]),(5,[1,8]),(6,[]),(7,[]),(9,[])] else if r=10 then[(0,[]),(1,[]),(2,[]),(4,[]),(5,[]),(7,[]),(8,[]),(9,[]),(3,[4,5,9]),(6,[9]),(10,[]),(11,[]),(12,[])] else[])
end
def gtT (id:Int) (t:Trail):Bool:=decide (id < t.id)
def lH (l:List Trail) (s:Span) (stamp now:Int):List Trail:=
 if idx (isId s.trace) l < 0 then l.take (l.findIdx (gtT s.trace))++⟨s.trace,stamp,now,[s]⟩::l.drop (l.findIdx (gtT s.trace))
 else match l[(idx (isId s.trace) l).toNat]? with
  |some t=>l.set (idx (isId s.trace) l).toNat {t with spans:=t.spans++[s]}
  |none=>l
theorem Vo {l:List Trail} {s:Span} {st nw:Int} (h:idx (isId s.trace) l < 0):lH l s st nw=l.take (l.findIdx (gtT s.trace))++⟨s.trace,st,nw,[s]⟩::l.drop (l.findIdx (gtT s.trace)):=if_pos h
theorem Uw {l:List Trail} {s:Span} {st nw:Int} {i:Nat} {t:Trail} (h:idx (isId s.trace) l=i) (ht:l[i]? =some t):lH l s st nw=l.set i {t with spans:=t.spans++[s]}:=by
 unfold lH
 rw[if_neg (by omega),h]
 simp only[Int.toNat_natCast,ht]
theorem ak6 (id:Int) (l:List Trail):l.findIdx (gtT id)≤l.length:=List.findIdx_le_length
theorem TV {α:Type} {p:α→Bool} {l:List α} {k:Nat} (hk:k≤l.length) (hlo:∀ j y,j < k→l[j]? =some y→p y=false) (hhi:∀ y,l[k]? =some y→p y=true):l.findIdx p=k:=by
 by_cases e:k < l.length
 ·rw[List.findIdx_eq e]
  exact⟨hhi _ (List.getElem?_eq_getElem e),fun j hj=>hlo j _ hj (List.getElem?_eq_getElem (by omega))⟩
 ·have:k=l.length:=by omega
  subst this
  rw[List.findIdx_eq_length]
  intro x hx
  obtain⟨j,hj⟩:=List.mem_iff_getElem?.1 hx
  exact hlo j x (List.getElem?_eq_some_iff.1 hj).1 hj
theorem R9 {h:AH} {l:List Trail} {v:AV} {F:List Nat} {s:Span} {vS:AV} {Fs:List Nat} {st nw:Int} {n:Nat} (hs:l.length+szs l≤67108864) (hss:Sz.sz s≤67108864) (r:ah h v l F) (o:Own n h F) (rs:ah h vS s.attrs Fs):
  bq Tryz.prog KM [v,.agg (s.cs vS),.int .i64 st,.int .i64 nw] h (rF Trail h (lH l s st nw)):=by
 refine aeW _ _ _ _ ?_
 unfold SF
 refine vs0 ?_
 obtain⟨H,hH⟩:∃ H,H=h.push ⟨s.cs vS,0,0⟩:=⟨_,rfl⟩
 have nH:H.n=h.n+1:=by rw[hH];rfl
 have eH:Ext h H:=by rw[hH];exact(Ext.refl h).push _
 have bH:Bk H h.n [.int .i64 s.trace,.int .i64 s.id,.int .i64 s.start,.int .i64 s.fin,.bool s.err,vS] 0:=by rw[hH];exact gF
 rw[←hH]
 clear hH
 have r':=r.ext eH
 have rs':=rs.ext eH
 refine aL (Fj l hs _ _ _ r') ?_
 rintro w1 h1 ⟨e1,G1,q1,o1⟩
 have n1:=e1.1
 have b1:=fq e1 bH
 have r1:=r'.ext e1
 have rs1:=rs'.ext e1
 have E1:Ext h h1:=eH.trans e1
 have o1F:Own n h1 F:=(jk E1 ⟨o,r.lt⟩).1
 refine vs ?_
 refine aQ (J9 r1) ?_
 refine br (fun hge=>?_) (fun hlt=>?_)
 ·have hib:=Iz (isId s.trace) l
  obtain⟨i,hi⟩:∃ i:Nat,idx (isId s.trace) l=i:=⟨(idx (isId s.trace) l).toNat,by omega⟩
  obtain⟨t,ht,-,-⟩:=aU (show i < l.length by omega)
  have hil:i < l.length:=(List.getElem?_eq_some_iff.1 ht).1
  have hm:=dh (List.mem_of_getElem? ht)
  have hx2:Sz.sz t=t.spans.length+szs t.spans:=rfl
  rw[Uw hi ht]
  rw[hi]
  obtain⟨b,off,E,Fi,R,rfl,⟨vL,rfl,rL⟩,oL,el,dF,mR,mF⟩:=q1.elt o1 ht
  refine vs ?_
  refine zf (by omega) ?_
  have a1:At h1 b (off+i * 4) [.int .i64 t.id,.int .i64 t.stamp,.int .i64 t.first,vL]:=el.at_
  refine vs ?_
  refine aL (qC s hss _ _ _ ⟨_,rfl,rs1⟩) ?_
  rintro _ h2 ⟨e2,_,G2,rfl,⟨w2,rfl,q2⟩,o2⟩
  have n2:=e2.1
  have el2:=el.ext e2
  have a2:At h2 b (off+i * 4) [.int .i64 t.id,.int .i64 t.stamp,.int .i64 t.first,vL]:=el2.at_
  have rL2:=rL.ext e2
  have oL2:Own h.n h2 Fi:=((jk e2 oL).1).mono (by omega) fun _ _=>rfl
  have dG:∀ c∈Fi,c ∉ G2:=fun c hc hg=>by have:=oL.2 c hc;have:=(o2.2 c hg).1;omega
  have dRG:∀ c∈R,c ∉ G2:=fun c hc hg=>by have:=el.own.2 c hc;have:=(o2.2 c hg).1;omega
  have alD:=q2.lt
  refine vs ?_
  refine iC (n:=h.n) (xs:=t.spans) (a:=s) (G:=G2) rL2 ⟨_,rfl,q2⟩ (iK oL2 (o2.mono (by omega) fun _ _=>rfl) (Nat.le_refl _) dG) (by omega) rfl (by omega) (by omega) ?_
  intro v' h3 F3 ek k3 q3 o3 m3
  have n3:=k3.1
  have el3:=el2.kp (k3) fun c hc hf=>dF c hf hc
  refine zf (by omega) ?_
  refine vs ?_
  refine el3.st_ (j:=3) q3.cell rfl bV ?_
  intro h4 el4 k4 n4
  have ltR:∀ c∈R,c < h1.n:=el.own.2
  have dR3:∀ c∈F3,c ∉ R:=fun c hc hR=>by
   rcases m3 c hc with q|q|q
   ·exact dF c q hR
   ·exact dRG c hR q
   ·have:=ltR c hR;omega
  have mb:b∈R:=el.mem
  have q4:ah h4 v' (t.spans++[s]) F3:=aK k4 q3 fun c hc hb=>dR3 c hc (List.mem_singleton.1 hb▸mb)
  have o4:Own h.n h4 F3:=(bX k4 ⟨o3,q3.lt⟩ fun c hc hb=>dR3 c hc (List.mem_singleton.1 hb▸mb)).1
  have el4:Elt Trail H.n h4 b (off+i * 4) (Trail.cs {t with spans:=t.spans++[s]} v') (.sl b off l.length) l i R:=el4
  have o4':Own H.n h4 F3:=⟨o4.1,fun c hc=>⟨by
   rcases m3 c hc with q|q|q
   ·exact(oL.1.2 c q).1
   ·have:=(o2.2 c q).1;omega
   ·omega,(o4.2 c hc).2⟩⟩
  obtain⟨F5,q5,o5,-⟩:=el4.done (x':={t with spans:=t.spans++[s]}) ⟨v',rfl,q4⟩ o4' dR3
  refine vs ?_
  have hb1:h.n≤b:=by have:=(el.own.1.2 b mb).1;omega
  exact⟨rfl,_,rfl,Kp.ext (ek h (E1.trans e2) (Nat.le_refl _)) k4 fun c hc=>by rw[List.mem_singleton.1 hc];exact hb1,F5,q5,o5.mono (by omega) fun _ _=>rfl⟩
 ·rw[Vo (by omega)]
  have hgb:=ak6 s.trace l
  obtain⟨k,hk⟩:∃ k,k=l.findIdx (gtT s.trace):=⟨_,rfl⟩
  rw[←hk] at hgb ⊢
  have hsm:=r1.small
  refine aX l.length (fun i vs h2=>vs=[.int .i64 (i:Int)]∧i≤l.length∧h2=h1∧eZ l (fun _ t=>gtT s.trace t=false) i) ⟨rfl,Nat.zero_le _,rfl,up0⟩ ?_
  rintro i vL h2 _ ⟨rfl,hi,rfl,hu⟩
  simp only[g0]
  refine Prog.sI (Q:=fun tag vs' h'=>(tag=0∧i < l.length∧vs'=[.int .i64 ((i+1:Nat):Int)]∧h'=h2∧eZ l (fun _ t=>gtT s.trace t=false) (i+1))∨(tag=2∧vs'=[.int .i64 (k:Int)]∧h'=h2)) _ ?_ ?_
  ·refine eG r1 ?_
   refine br (fun hl=>?_) (fun hg=>?_)
   ·obtain⟨t,ht,-,-⟩:=aU (show i < l.length by omega)
    (repeat' first|refine vs ?_|(refine br ?_ ?_<;>first|exact bx|intro _)|((with_reducible refine bB ?_);((refine ix ?_);rintro _ _ _ _ _ ⟨_,rfl,_⟩ _))|fail)
    ·rename_i hle
     exact .inl ⟨rfl,by omega,rfl,rfl,upS hu ht (by simp[gtT];omega)⟩
    ·rename_i hle
     have:k=i:=by rw[hk];exact TV (by omega) (fun j y hj hy=>hu j y hj hy) fun y hy=>by rw[ht] at hy;cases hy;simp[gtT];omega
     subst this
     exact .inr ⟨rfl,rfl,rfl⟩
   ·(repeat' first|refine vs ?_|fail)
    have:k=i:=by rw[hk];exact TV (by omega) (fun j y hj hy=>hu j y hj hy) fun y hy=>by have:=(List.getElem?_eq_some_iff.1 hy).1;omega
    subst this
    exact .inr ⟨rfl,rfl,rfl⟩
  rintro tg vs' h' (⟨rfl,hl,rfl,rfl,hu'⟩|⟨rfl,rfl,rfl⟩)
  ·exact dN ⟨hl,rfl,by omega,rfl,hu'⟩
  refine jC (by decide) (je (by decide) (jf ?_))
  obtain⟨u1,u2,B,X1,X2,eF,p1,t1,p2,t2,s1,s2⟩:=r1.cut (P:=Tryz.prog) o1F hgb
  have ltF:=r1.lt
  refine vs ?_
  refine aL (qC s hss _ _ _ ⟨_,rfl,dU rs1⟩) ?_
  rintro _ h3 ⟨e3,_,G3,rfl,⟨w3,rfl,q3⟩,o3⟩
  have n3:=e3.1
  simp only[aJ] at n3
  have B3:Bk h3 h'.n [.int .i64 0,.int .i64 0,.int .i64 0,.aA] 0:=fq e3 gF
  have e3':Ext h' h3:=((Ext.refl h').push _).trans e3
  refine vs ?_
  refine zY ⟨by rw[B3.2],by rw[B3.2],by rw[B3.2]⟩ ?_
  refine vs ?_
  obtain⟨L,hL⟩:∃ L,L=h3.upd h'.n ⟨[.int .i64 s.trace,.int .i64 st,.int .i64 nw,.sl h3.n 0 1],0,0⟩:=⟨_,rfl⟩
  have nL:L.n=h3.n:=by rw[hL];rfl
  have eL:Ext h' L:=by rw[hL];exact e3'.upd (Nat.le_refl _) _
  have bL:Bk L h'.n [.int .i64 s.trace,.int .i64 st,.int .i64 nw,.sl h3.n 0 1] 0:=by rw[hL];exact gG (by omega)
  have ng3:h'.n ∉ G3:=fun hm=>by have:=(o3.2 _ hm).1;simp only[aJ] at this;omega
  have qL:ah L w3 s.attrs G3:=by rw[hL];exact dH q3 ng3
  have oL:Own (h'.n+1) L G3:=by rw[hL];exact(dM ⟨o3,q3.lt⟩ ng3).1
  obtain⟨K,hK⟩:∃ K,K=L.push ⟨[.int .i64 s.trace,.int .i64 s.id,.int .i64 s.start,.int .i64 s.fin,.bool s.err,w3],6,0⟩:=⟨_,rfl⟩
  have nK:K.n=h3.n+1:=by rw[hK,aJ,nL]
  have eK:Ext h' K:=by rw[hK];exact eL.push _
  have bK:Bk K h'.n [.int .i64 s.trace,.int .i64 st,.int .i64 nw,.sl h3.n 0 1] 0:=by rw[hK];exact iy bL
  have rK:ah K (.sl h3.n 0 1) [s] (h3.n::G3):=by
   rw[hK,←nL]
   exact kX (n:=1) rfl (by decide) (qH ⟨w3,rfl,qL⟩)
  have oK:Own h.n K (h3.n::G3):=by
   rw[hK,←nL]
   exact oD (by omega) rfl qL.lt (oL.mono (by omega) fun _ _=>rfl)
  rw[←hL]
  rw[←hK]
  clear hK
  have gB:∀ (X:AH),Ext h' X→∀ c∈B,X.get c=h'.get c:=fun X eX c hc=>eX.2 c (ltF c (by rw[eF];simp[hc]))
  refine M7 (s1 K _ (gB K eK) ?_)
  refine vs ?_
  obtain⟨M,hM⟩:∃ M,M=K.push ⟨[.int .i64 s.trace,.int .i64 st,.int .i64 nw,.sl h3.n 0 1],4,0⟩:=⟨_,rfl⟩
  have nM:M.n=K.n+1:=by rw[hM];rfl
  have eKM:Ext K M:=by rw[hM];exact(Ext.refl K).push _
  have eM:Ext h' M:=eK.trans eKM
  have bM:Bk M h'.n [.int .i64 s.trace,.int .i64 st,.int .i64 nw,.sl h3.n 0 1] 0:=fq eKM bK
  have bM2:Bk M K.n [.int .i64 s.trace,.int .i64 st,.int .i64 nw,.sl h3.n 0 1] 4:=by rw[hM];exact gF
  have rM:ah M (.sl K.n 0 1) [(⟨s.trace,st,nw,[s]⟩:Trail)] (K.n::h3.n::G3):=by rw[hM];exact kX (n:=1) rfl (by decide) (qH ⟨_,rfl,rK⟩)
  have oM:Own h.n M (K.n::h3.n::G3):=by rw[hM];exact oD (by omega) rfl rK.lt oK
  have hMe:K.push ⟨[.int .i64 s.trace,.int .i64 st,.int .i64 nw,.sl h3.n 0 1],4,0⟩=M:=hM.symm
  rw[hMe]
  clear hM hMe
  refine M7 (s2 M _ (gB M eM) ?_)
  have ht1:(l.take k).length+szs (l.take k)≤67108864:=by
   have:=zB (l.take k) (l.drop k);rw[List.take_append_drop] at this
   rw[List.length_take];omega
  have ht2:(l.drop k).length+szs (l.drop k)≤67108864:=by
   have:=zB (l.take k) (l.drop k);rw[List.take_append_drop] at this
   rw[List.length_drop];omega
  refine aL (Fj (l.take k) ht1 _ _ _ (p1.ext eM)) ?_
  rintro w5 h5 ⟨e5,G5,q5,o5⟩
  have n5:=e5.1
  have b5:=fq e5 bM
  refine vs ?_
  refine Mr (fq e5 bM2) (by rfl) (by decide) (by rfl) ?_
  refine zY (s2 h5 (fun v' h2=>v'=u2∧h2=h5) (gB h5 (eM.trans e5)) ⟨rfl,rfl⟩) ?_
  have hl1:([(⟨s.trace,st,nw,[s]⟩:Trail)]).length=1:=rfl
  have ltM:=rM.lt
  have lM:∀ c∈h3.n::G3,c < M.n:=fun c hc=>ltM c (List.mem_cons_of_mem _ hc)
  have o5':Own h.n h5 (G5++(h3.n::G3)):=iK (o5.mono (by omega) fun _ _=>rfl) (⟨(List.nodup_cons.1 oM.1).2,fun c hc=>by
   have:=oM.2 c (List.mem_cons_of_mem _ hc)
   rw[e5.2 c (lM c hc)];exact this⟩) (Nat.le_refl _) fun c hc hm=>by
    have:=(o5.2 c hc).1;have:=lM c hm;omega
  refine xg (n:=h.n) q5 (rM.ext e5) o5' (by omega) rfl (by rw[hl1,List.length_take];omega) (by rw[hl1,List.length_take];omega) ?_
  intro w6 h6 F6 k6 q6 o6 m6
  have n6:=k6.1
  have k6':∀ c,c < M.n→h6.get c=h5.get c:=fun c hc=>k6.2 c (by omega) fun hm=>by have:=(o5.2 c hm).1;omega
  have e6:Ext h' h6:=⟨by have:=eM.1;omega,fun c hc=>by
   have:=eM.1
   rw[k6' c (by omega)];exact(eM.trans e5).2 c hc⟩
  refine zY (s2 h6 (fun v' h2=>v'=u2∧h2=h6) (gB h6 e6) ⟨rfl,rfl⟩) ?_
  refine aL (Fj (l.drop k) ht2 _ _ _ (p2.ext e6)) ?_
  rintro w7 h7 ⟨e7,G7,q7,o7⟩
  have n7:=e7.1
  refine xg (n:=h.n) (q6.ext e7) q7 (UO (iK (o6.ext e7 q6.lt) (o7.mono (by omega) fun _ _=>rfl) (Nat.le_refl _) fun c hc hm=>by
   have:=q6.lt c hc;have:=(o7.2 c hm).1;omega)) (by omega) rfl (by simp only[List.length_append,List.length_take,List.length_drop,hl1];omega) (by simp only[List.length_append,List.length_take,List.length_drop,hl1];omega) ?_
  intro w8 h8 F8 k8 q8 o8 m8
  refine vs ?_
  refine⟨rfl,_,rfl,?_,F8,?_,o8⟩
  ·refine Kp.ext ((E1.trans e6).trans e7) k8 fun c hc=>(o6.2 c hc).1
  ·have:l.take k++[(⟨s.trace,st,nw,[s]⟩:Trail)]++l.drop k=l.take k++⟨s.trace,st,nw,[s]⟩::l.drop k:=by simp
   rw[←this];exact q8
end Go.Proofs.YtcgjihfngdhjjaaGreat
end
section
namespace Go.Proofs.YtcgjihfngdhjjaaGreat
open Go Go.Ab
def upd {α:Type} (l:List α) (i:Nat) (f:α→α):List α:=match l[i]? with
 |some a=>l.set i (f a)
 |none=>l
theorem gV {α:Type} {l:List α} {i:Nat} {f:α→α} {a:α} (h:l[i]? =some a):upd l i f=l.set i (f a):=by unfold upd;rw[h]
theorem mh {α:Type} {l:List α} {i:Nat} {f:α→α}:(upd l i f).length=l.length:=by
 unfold upd;split<;>simp
def fD (st:List aR) (trace v:Int):List aR:=upd st (stripe trace st.length).toNat fun s=>{s with held:=v}
theorem u6 {l:List aR} {i:Nat} {x:aR} (h:l[i]? =some x):allT l=allT (l.take i)++(x.l++allT (l.drop (i+1))):=by
 conv=>lhs;rw[oC h]
 simp[allT]
theorem wS {l:List aR} {i:Nat} {x x':aR} (h:l[i]? =some x):allT (l.set i x')=allT (l.take i)++(x'.l++allT (l.drop (i+1))):=by
 rw[BI h]
 simp[allT]
theorem zk {l:List aR} {t:Trail}:t∈allT l↔∃ (i:Nat) (x:aR),l[i]? =some x∧t∈x.l:=by
 unfold allT
 rw[List.mem_flatMap]
 constructor
 ·rintro⟨x,hx,ht⟩
  obtain⟨i,hi⟩:=List.mem_iff_getElem?.1 hx
  exact⟨i,x,hi,ht⟩
 ·rintro⟨i,x,hi,ht⟩
  exact⟨x,List.mem_of_getElem? hi,ht⟩
abbrev mU (a b:Trail):Prop:=a.id < b.id
theorem agl {xs:List Trail} (h:∀ (k:Nat) (t:Trail),xs[k]? =some t→∀ u,0 < k→xs[((k:Int) - 1).toNat]? =some u→¬ t.id≤u.id):xs.Pairwise mU:=by
 rw[List.pairwise_iff_getElem]
 intro i j hi hj hij
 induction j with
 |zero=>omega
 |succ j ih=>
  have h1:=h (j+1) xs[j+1] (List.getElem?_eq_getElem hj) (xs[j]'(by omega)) (by omega) (by rw[show(((j+1:Nat):Int) - 1).toNat=j by omega];exact List.getElem?_eq_getElem (by omega))
  by_cases e:i=j
  ·subst e;show _ < _;omega
  ·have:=ih (by omega) (by omega)
   show _ < _
   have:xs[i].id < (xs[j]'(by omega)).id:=this
   omega
theorem agL {xs:List Trail} (h:xs.Pairwise mU):∀ (k:Nat) (t:Trail),xs[k]? =some t→∀ u,0 < k→xs[((k:Int) - 1).toNat]? =some u→¬ t.id≤u.id:=by
 intro k t ht u hk hu
 rw[List.pairwise_iff_getElem] at h
 obtain⟨h1,rfl⟩:=List.getElem?_eq_some_iff.1 ht
 obtain⟨h2,rfl⟩:=List.getElem?_eq_some_iff.1 hu
 have:=h _ k h2 h1 (by omega)
 unfold mU at this
 omega
def mg (l:List aR):Prop:=(1≤(l.length:Int)∧(l.length:Int)≤3)∧
 (∀ (i:Nat) (x:aR),l[i]? =some x→(-1≤x.held∧x.held≤4)∧(∀ t∈x.l,zA t∧stripe t.id l.length=i)∧x.l.Pairwise mU)∧((allT l).map (·.stamp)).Nodup
theorem afD {α:Type} {xs:List α} {y:α}:(xs++[y]).Nodup↔xs.Nodup∧y ∉ xs:=by
 rw[List.nodup_append]
 constructor
 ·rintro⟨h1,-,h3⟩
  exact⟨h1,fun hy=>h3 y hy y (by simp) rfl⟩
 ·rintro⟨h1,h2⟩
  exact⟨h1,by simp,fun a ha b hb e=>h2 (by rw[List.mem_singleton.1 hb] at e;exact e▸ha)⟩
theorem QX {l:List aR}:Gm l↔mg l:=by
 unfold Gm mg
 constructor
 ·rintro⟨h1,h2⟩
  refine⟨h1,fun i x hx=>?_,?_⟩
  ·obtain⟨a1,a2⟩:=h2 i x hx
   refine⟨a1,fun t ht=>?_,agl fun k t ht u hk hu=>(a2 k t ht).2.2.1 u hk hu⟩
   obtain⟨k,hk⟩:=List.mem_iff_getElem?.1 ht
   exact⟨(a2 k t hk).1,(a2 k t hk).2.1⟩
  ·have:∀ i,i≤l.length→((allT (l.take i)).map (·.stamp)).Nodup:=by
    intro i
    induction i with
    |zero=>intro _;simp[allT]
    |succ i ih=>
     intro hi
     obtain⟨x,hx,-,htk⟩:=aU (show i < l.length by omega)
     obtain⟨a1,a2⟩:=h2 i x hx
     have inner:∀ k,k≤x.l.length→((allT (l.take i)++x.l.take k).map (·.stamp)).Nodup:=by
      intro k
      induction k with
      |zero=>intro _;simpa using ih (by omega)
      |succ k ihk=>
       intro hk
       obtain⟨t,ht,-,xY⟩:=aU (show k < x.l.length by omega)
       rw[xY,←List.append_assoc,List.map_append,List.map_singleton,afD]
       exact⟨ihk (by omega),(a2 k t ht).2.2.2⟩
     rw[Ih htk]
     simpa using inner x.l.length (Nat.le_refl _)
   simpa using this l.length (Nat.le_refl _)
 ·rintro⟨h1,h2,h3⟩
  refine⟨h1,fun i x hx=>?_⟩
  obtain⟨a1,a2,a3⟩:=h2 i x hx
  refine⟨a1,fun k t ht=>⟨(a2 t (List.mem_of_getElem? ht)).1,(a2 t (List.mem_of_getElem? ht)).2,fun u hk hu=>agL a3 k t ht u hk hu,?_⟩⟩
  rw[u6 hx,oC ht] at h3
  have e:allT (l.take i)++(x.l.take k++t::x.l.drop (k+1)++allT (l.drop (i+1)))=(allT (l.take i)++x.l.take k)++([t]++(x.l.drop (k+1)++allT (l.drop (i+1)))):=by simp
  rw[e,List.map_append] at h3
  have:=(List.nodup_append.1 h3).2.2
  intro hm
  exact this _ hm t.stamp (by simp) rfl
section
variable{l:List aR} {i:Nat} {x x':aR}
theorem KH (hx:l[i]? =some x) (h:mg l) (hh: -1≤x'.held∧x'.held≤4) (ht:∀ t∈x'.l,zA t∧stripe t.id l.length=i) (hp:x'.l.Pairwise mU) (hn:((allT (l.set i x')).map (·.stamp)).Nodup):mg (l.set i x'):=by
 obtain⟨h1,h2,h3⟩:=h
 refine⟨by simpa using h1,fun j y hy=>?_,hn⟩
 rw[List.length_set]
 rw[List.getElem?_set] at hy
 split at hy
 ·rename_i e
  split at hy
  ·cases hy;subst e;exact⟨hh,ht,hp⟩
  ·cases hy
 ·exact h2 j y hy
theorem kW (h:1≤(l.length:Int)) (id:Int):∃ y,l[(stripe id l.length).toNat]? =some y:=by
 have:=jg (t:=id) h
 exact⟨l[(stripe id l.length).toNat]'(by omega),List.getElem?_eq_getElem _⟩
theorem oP {tr v:Int} {y:aR} (h:l[(stripe tr l.length).toNat]? =some y):fD l tr v=l.set (stripe tr l.length).toNat {y with held:=v}:=gV h
theorem qE {tr v:Int}:(fD l tr v).length=l.length:=mh
theorem wL {tr v:Int}:allT (fD l tr v)=allT l:=by
 cases hy:l[(stripe tr l.length).toNat]? with
 |none=>unfold fD upd;rw[hy]
 |some y=>rw[oP hy,wS hy,←u6 hy]
theorem Bc {tr v:Int} (h:mg l) (hv: -1≤v∧v≤4):mg (fD l tr v):=by
 obtain⟨y,hy⟩:=kW h.1.1 tr
 obtain⟨a1,a2,a3⟩:=h.2.1 _ _ hy
 rw[oP hy]
 refine KH hy h hv a2 a3 ?_
 rw[←oP hy,wL]
 exact h.2.2
theorem agp {tr v:Int} {j:Nat} {s:aR} (h1:1≤(l.length:Int)) (hs:(fD l tr v)[j]? =some s):∃ y,l[j]? =some y∧s.l=y.l∧((j:Int)=stripe tr l.length→s.held=v)∧((j:Int)≠stripe tr l.length→s.held=y.held):=by
 obtain⟨y,hy⟩:=kW h1 tr
 have hb:=jg (t:=tr) h1
 rw[oP hy,List.getElem?_set] at hs
 split at hs
 ·rename_i e
  split at hs
  ·cases hs;subst e;exact⟨y,hy,rfl,fun _=>rfl,fun q=>absurd (by omega) q⟩
  ·cases hs
 ·rename_i e
  exact⟨s,hs,rfl,fun q=>absurd (by omega) e,fun _=>rfl⟩
theorem af8 {α:Type} {f:α→Int} {a b:List α} (p:a.Perm b):bD f a=bD f b:=by
 induction p with
 |nil=>rfl
 |cons x _ ih=>simp only[bD,ih]
 |swap x y l=>simp only[bD];omega
 |trans _ _ ih1 ih2=>exact ih1.trans ih2
theorem LK {α:Type} {p:α→Bool} {xs:List α} (h: ¬ idx p xs < 0):∃ (j:Nat) (t:α),idx p xs=(j:Int)∧xs[j]? =some t∧p t=true∧∀ k y,k < j→xs[k]? =some y→p y=false:=by
 unfold idx at h ⊢
 split at h
 ·rename_i hl
  refine⟨xs.findIdx p,xs[xs.findIdx p],by rw[if_pos hl],List.getElem?_eq_getElem hl,List.findIdx_getElem,fun k y hk hy=>?_⟩
  obtain⟨hk',rfl⟩:=List.getElem?_eq_some_iff.1 hy
  exact List.not_of_lt_findIdx hk
 ·omega
theorem U9 {α:Type} {p:α→Bool} {xs:List α} (h:idx p xs < 0):∀ y∈xs,p y=false:=by
 unfold idx at h
 split at h
 ·omega
 ·rename_i hl
  have:xs.findIdx p=xs.length:=by have:=List.findIdx_le_length (xs:=xs) (p:=p);omega
  rw[List.findIdx_eq_length] at this
  exact this
theorem ze {id:Int} {o:Trail} (h:dP l id=some o):∃ (y:aR) (j:Nat),l[(stripe id l.length).toNat]? =some y∧y.l[j]? =some o∧idx (isId id) y.l=(j:Int)∧o.id=id:=by
 unfold dP at h
 cases hy:l[(stripe id l.length).toNat]? with
 |none=>rw[hy] at h;cases h
 |some y=>
  rw[hy] at h
  simp only[uS] at h
  split at h
  ·cases h
  ·rename_i hn
   obtain⟨j,t,hj,ht,hp,-⟩:=LK hn
   rw[hj,Int.toNat_natCast,ht] at h
   cases h
   exact⟨y,j,rfl,ht,hj,by simpa[isId] using hp⟩
theorem TU {id:Int} (h:dP l id=none) (y:aR) (hy:l[(stripe id l.length).toNat]? =some y):idx (isId id) y.l < 0:=by
 unfold dP at h
 rw[hy] at h
 simp only[uS] at h
 split at h
 ·assumption
 ·rename_i hn
  obtain⟨j,t,hj,ht,-,-⟩:=LK hn
  rw[hj,Int.toNat_natCast,ht] at h
  cases h
theorem zw {id:Int} {o:Trail} (h:dP l id=some o):o∈allT l∧o.id=id:=by
 obtain⟨y,j,hy,hj,-,he⟩:=ze h
 exact⟨zk.2 ⟨_,y,hy,List.mem_of_getElem? hj⟩,he⟩
theorem ajj {xs:List Trail} (h:xs.Pairwise mU) {i j:Nat} {a b:Trail} (ha:xs[i]? =some a) (hb:xs[j]? =some b) (e:a.id=b.id):i=j:=by
 rw[List.pairwise_iff_getElem] at h
 obtain⟨hi,rfl⟩:=List.getElem?_eq_some_iff.1 ha
 obtain⟨hj,rfl⟩:=List.getElem?_eq_some_iff.1 hb
 rcases Nat.lt_trichotomy i j with q|q|q
 ·have:=h i j hi hj q;unfold mU at this;omega
 ·exact q
 ·have:=h j i hj hi q;unfold mU at this;omega
theorem GK (h:mg l) {o:Trail} (ho:o∈allT l):dP l o.id=some o:=by
 obtain⟨i,y,hy,hoy⟩:=zk.1 ho
 obtain⟨-,a2,a3⟩:=h.2.1 i y hy
 have hi:=(a2 o hoy).2
 have hy':l[(stripe o.id l.length).toNat]? =some y:=by rw[hi];simpa using hy
 unfold dP
 rw[hy']
 simp only[uS]
 obtain⟨k,hk⟩:=List.mem_iff_getElem?.1 hoy
 split
 ·rename_i hn
  have:=U9 hn o hoy
  simp[isId] at this
 ·rename_i hn
  obtain⟨j,t,hj,ht,hp,-⟩:=LK hn
  have e:j=k:=ajj a3 ht hk (by simpa[isId] using hp)
  subst e
  rw[hj,Int.toNat_natCast,ht]
  rw[hk] at ht
  cases ht;rfl
theorem drop_at {id:Int} {o:Trail} (h:dP l id=some o):∃ (y:aR) (j:Nat),l[(stripe id l.length).toNat]? =some y∧y.l[j]? =some o∧fU l id=l.set (stripe id l.length).toNat {y with l:=y.l.eraseIdx j}:=by
 obtain⟨y,j,hy,hj,hi,-⟩:=ze h
 exact⟨y,j,hy,hj,by rw[Vg hy (by omega),hi,Int.toNat_natCast]⟩
theorem Gi {id:Int} {o:Trail} (h:dP l id=some o):∃ A B,allT l=A++o::B∧allT (fU l id)=A++B:=by
 obtain⟨y,j,hy,hj,hd⟩:=drop_at h
 refine⟨allT (l.take (stripe id l.length).toNat)++y.l.take j,y.l.drop (j+1)++allT (l.drop ((stripe id l.length).toNat+1)),?_,?_⟩
 ·rw[u6 hy]
  conv=>lhs;rw[oC hj]
  simp
 ·rw[hd,wS hy,Tf (List.getElem?_eq_some_iff.1 hj).1]
  simp
theorem zx {id:Int}:(fU l id).length=l.length:=by
 unfold fU
 split
 ·rfl
 ·split<;>simp
theorem agu {id:Int} {o:Trail} (h:dP l id=some o):held l=dW o+held (fU l id):=by
 obtain⟨A,B,e1,e2⟩:=Gi h
 unfold held
 rw[e1,e2,qG,qG]
 simp only[bD]
 omega
theorem Vh {id:Int} {o:Trail} (h:dP l id=some o) {j:Nat} {s:aR} (hs:(fU l id)[j]? =some s):∃ y,l[j]? =some y∧s.held=y.held∧s.l.Sublist y.l:=by
 obtain⟨y,k,hy,hk,hd⟩:=drop_at h
 rw[hd,List.getElem?_set] at hs
 split at hs
 ·rename_i e
  split at hs
  ·cases hs;subst e;exact⟨y,hy,rfl,List.eraseIdx_sublist _ _⟩
  ·cases hs
 ·exact⟨s,hs,rfl,List.Sublist.refl _⟩
theorem ade (hl:mg l) {id:Int} {o:Trail} (h:dP l id=some o):mg (fU l id):=by
 obtain⟨A,B,e1,e2⟩:=Gi h
 refine⟨by rw[zx];exact hl.1,fun j s hs=>?_,?_⟩
 ·obtain⟨y,hy,g1,g2⟩:=Vh h hs
  obtain⟨a1,a2,a3⟩:=hl.2.1 j y hy
  rw[zx]
  exact⟨by rw[g1];exact a1,fun t ht=>a2 t (g2.subset ht),a3.sublist g2⟩
 ·have h3:=hl.2.2
  rw[e1] at h3
  rw[e2]
  exact h3.sublist ((List.Sublist.append_left (List.sublist_cons_self o B) A).map _)
theorem agr {xs:List Trail} {t:Trail} (h:xs.Pairwise mU) (hn:∀ y∈xs,y.id≠t.id):(xs.take (xs.findIdx (gtT t.id))++t::xs.drop (xs.findIdx (gtT t.id))).Pairwise mU:=by
 obtain⟨p,hp⟩:∃ p,p=xs.findIdx (gtT t.id):=⟨_,rfl⟩
 rw[←hp]
 have hsp:xs.take p++xs.drop p=xs:=List.take_append_drop p xs
 have h':=h
 rw[←hsp,List.pairwise_append] at h'
 obtain⟨h1,h2,h3⟩:=h'
 have hlo:∀ y∈xs.take p,y.id < t.id:=by
  intro y hy
  obtain⟨k,hk⟩:=List.mem_iff_getElem?.1 hy
  rw[List.getElem?_take] at hk
  split at hk
  ·rename_i hkp
   obtain⟨hk',rfl⟩:=List.getElem?_eq_some_iff.1 hk
   have:=List.not_of_lt_findIdx (p:=gtT t.id) (xs:=xs) (i:=k) (by omega)
   have h4:=hn xs[k] (List.getElem_mem hk')
   simp[gtT] at this
   omega
  ·cases hk
 have hhi:∀ y∈xs.drop p,t.id < y.id:=by
  intro y hy
  by_cases hpl:p < xs.length
  ·have h0:gtT t.id (xs[p])=true:=by subst hp;exact List.findIdx_getElem
   have h0:t.id < (xs[p]).id:=by simpa[gtT] using h0
   have hd:xs.drop p=xs[p]::xs.drop (p+1):=List.drop_eq_getElem_cons hpl
   rw[hd] at hy h2
   rcases List.mem_cons.1 hy with e|e
   ·rw[e];exact h0
   ·have:=(List.pairwise_cons.1 h2).1 y e
    unfold mU at this
    omega
  ·rw[List.drop_eq_nil_of_le (by omega)] at hy;cases hy
 rw[List.pairwise_append]
 refine⟨h1,List.pairwise_cons.2 ⟨hhi,h2⟩,fun a ha b hb=>?_⟩
 rcases List.mem_cons.1 hb with e|e
 ·rw[e];exact hlo a ha
 ·exact h3 a ha b e
theorem Uy {xs:List Trail} {s:Span} {st nw:Int} (hn:idx (isId s.trace) xs < 0) (h:xs.Pairwise mU):(lH xs s st nw).Pairwise mU∧(lH xs s st nw).Perm (⟨s.trace,st,nw,[s]⟩::xs):=by
 rw[Vo hn]
 refine⟨agr (t:=⟨s.trace,st,nw,[s]⟩) h fun y hy e=>?_,?_⟩
 ·have:=U9 hn y hy
  simp[isId] at this
  exact this e
 ·refine List.perm_middle.trans (List.Perm.cons _ ?_)
  rw[List.take_append_drop]
theorem Ux {xs:List Trail} {s:Span} {st nw:Int} {j:Nat} {t:Trail} (hi:idx (isId s.trace) xs=(j:Int)) (ht:xs[j]? =some t):lH xs s st nw=xs.take j++{t with spans:=t.spans++[s]}::xs.drop (j+1):=by
 rw[Uw hi ht,BI ht]
end
end Go.Proofs.YtcgjihfngdhjjaaGreat
end
