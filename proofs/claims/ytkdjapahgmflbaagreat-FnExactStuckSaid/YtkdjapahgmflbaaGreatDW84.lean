import Derived.Test.YtkdjapahgmflbaaGreatDW83
set_option linter.unusedSimpArgs false
set_option linter.unusedVariables false
set_option maxHeartbeats 2000000
namespace Go.Proofs.YtkdjapahgmflbaaGreat
open Go Go.Ab
attribute[local irreducible] cZ
section
def OX (x0 x1:AV):Prog:=.op (.aU 3 0 [] []) fun a=>.loop [a,.int .i64 0] (fun a=>Ln 0 x0 fun b=>Bn .lss (g a 1) b fun b=>.ite b (Ix 3 x0 (g a 1) fun b=>Lg 0 b fun b=>Bn .neq b x1 fun b=>.scope (.ite b (Ix 3 x0 (g a 1) fun b=>Ld 3 b fun b=>.op (.aU 3 1 [.int .i64 0,.int .i64 0,.int .i64 0] [(0,3,b)]) fun b=>.op (.app 3 24 (g a 0) b) fun a=>.leaf 0 [a]) (.leaf 0 [g a 0])) (fun b=>Bn .add (g a 1) (.int .i64 1) fun a=>.leaf 0 [g b 0,a]) fun a b=>aB a 1 (.leaf 1 b) .bad) (.leaf 2 [g a 0,g a 1])) fun a b=>aB a 1 (.leaf 1 b) (aB a 2 (.fin [.val (g b 0)]) .bad)
theorem abI (x0 x1:AV):CC Tryz.prog zQ [x0,x1] (OX x0 x1):=cc Tryz.func387 [0,1,5,6] (fun _=>[])
def QC (x0 x1:AV):Prog:=.op (.box x0) fun a=>Lg 0 a fun a=>.op (.ld1 x1) fun b=>Bn .eql a b fun a=>.fin [.val a]
theorem adM (x0 x1:AV):CC Tryz.prog JV [x0,x1] (QC x0 x1):=cc Tryz.func325
def ZQ (x0 x1:AV):Prog:=Cl uJ [x0,x1] fun a=>.op (.bin 0 .eql a (.int .i64 (-1))) fun b=>.ite b (.fin [.val x0]) (Bn .add a (.int .i64 1) fun b=>.loop [a,b] (fun a=>Ln 0 x0 fun b=>Bn .lss (g a 1) b fun b=>.ite b (Ix 3 x0 (g a 1) fun b=>Ld 3 b fun b=>.op (.alloc [.int .i64 0,.int .i64 0,.int .i64 0]) fun c=>.op (.st 3 c b) fun _=>Ld 3 c fun b=>.op (.iC x1 [b]) fun b=>.op (.una .not b) fun b=>.scope (.ite b (Ld 3 c fun b=>Ix 3 x0 (g a 0) fun c=>.op (.st 3 c b) fun _=>Bn .add (g a 0) (.int .i64 1) fun a=>.leaf 0 [a]) (.leaf 0 [g a 0])) (fun b=>Bn .add (g a 1) (.int .i64 1) fun a=>.leaf 0 [g b 0,a]) fun a b=>aB a 1 (.leaf 1 b) .bad) (.leaf 2 [g a 0,g a 1])) fun a b=>aB a 1 (.leaf 1 b) (aB a 2 (.op (.slc 3 x0 (some (g b 0)) none none) fun a=>.op (.clr 3 [.int .i64 0,.int .i64 0,.int .i64 0] a) fun _=>.op (.slc 3 x0 none (some (g b 0)) none) fun a=>.fin [.val a]) .bad))
theorem ZR (x0 x1:AV):CC Tryz.prog zM [x0,x1] (ZQ x0 x1):=cc Tryz.func326 [0,1,5,6] (fun _=>[])
end
theorem T9 {id:Int} {l:List Ab.Timer} {t:Ab.Timer}:without id (l++[t])=if t.id≠id then without id l++[t] else without id l:=by
 unfold without
 rw[List.filter_append]
 by_cases h:t.id=id
 ·simp[ji,h]
 ·simp[ji,h]
theorem K6 {id:Int} {l:List Ab.Timer}:(without id l).length≤l.length:=List.length_filter_le ..
theorem Jk {h:AH} {xs:List Ab.Timer} {x0:AV} {F:List Nat} {id:Int} (r:au h x0 xs F) (hsz:xs.length≤67108864):bN Tryz.prog zQ [x0,.int .i64 id] h (oz Ab.Timer h (without id xs)):=by
 refine abI _ _ ?_
 unfold OX
 (repeat' first|refine vs ?_|fail)
 have rn:au (h.push ⟨[],3,0⟩) (.sl h.n 0 0) ([]:List Ab.Timer) [h.n]:=lC (n:=0) rfl (by decide) ⟨rfl,rfl⟩
 refine aT xs.length (fun i vs h1=>∃ va F',vs=[va,.int .i64 (i:Int)]∧i≤xs.length∧Ext h h1∧au h1 va (without id (xs.take i)) F'∧Own h.n h1 F') ⟨_,_,rfl,by omega,aD,by simpa[without] using rn,mM (Nat.le_refl _) rfl (by simp) Own.nil⟩ ?_
 rintro i vs h1 _ ⟨va,F',rfl,hi,e,ra,oa⟩
 have he:=e.1
 simp only[g0,g1]
 have hwl:=K6 (id:=id) (l:=xs.take i)
 have htl:(xs.take i).length=i:=by simp;omega
 refine bP (r.ext e) (iH (fun hlt=>?_) (fun hge=>?_))
 ·obtain⟨t,ht,_,htk⟩:=aP (show i < xs.length by omega)
  (repeat' first|refine vs ?_|(refine br ?_ ?_<;>first|exact bx|intro _)|((with_reducible refine aY ?_);((refine ix ?_);rintro _ _ _ _ _ ⟨rfl,rfl⟩ _))|fail)
  ·refine iJ (n:=h.n) (a:=t) (cs:=t.cs) (G:=[]) ra ⟨rfl,rfl⟩ (by rw[List.append_nil];exact oa) he rfl (by omega) (by omega) ?_
   intro v2 h2 F2 ek kp rv ov _
   (repeat' first|refine vs ?_|fail)
   refine⟨by omega,v2,F2,rfl,by omega,ek h e (Nat.le_refl _),?_,ov⟩
   rw[htk,T9,if_pos (by assumption)];exact rv
  ·refine⟨by omega,va,F',rfl,by omega,e,?_,oa⟩
   rw[htk,T9,if_neg fun q=>q (by assumption)];exact ra
 ·have:i=xs.length:=by omega
  subst this
  rw[List.take_length] at ra
  (repeat' first|refine vs ?_|fail)
  exact⟨rfl,va,rfl,e,F',ra,oa⟩
theorem JH {h:AH} {b:Nat} {id:Int} (a:At h b 0 [.int .i64 id]):Looks Ab.Timer Tryz.prog h JV [.ptr b 0] (ji id):=by
 rintro x cs F ⟨rfl,rfl⟩
 refine reader (adM _ _) (by simp only[old]) ?_
 unfold QC
 refine mX rfl ?_
 (repeat' first|refine vs ?_|(refine br ?_ ?_<;>first|exact bx|intro _)|fail)
 all_goals(refine⟨rfl,?_,aD⟩;simp[ji, *])
theorem I8 {h:AH} {n:Nat} {xs:List Ab.Timer} {x0:AV} {F:List Nat} {f:FuncId} {caps:List AV} {p:Ab.Timer→Bool} (r:au h x0 xs F) (o:Own n h F) (hf:∀ h',Kp h h' F→Looks Ab.Timer Tryz.prog h' f caps p):
  bN Tryz.prog zM [x0,.fn f caps] h fun u h'=>Kp h h' F∧au h' u (xs.filter fun x=>!p x) F∧Own n h' F:=
 ZR _ _ (V6 (w:=3) rfl rfl r o (Ja r (hf h (Kp.refl _ _))) hf)
def wi (id:Int) (i:Nat) (l:List (List Ab.Timer)):List (List Ab.Timer):=(l.take i).map (without id)++l.drop i
section
variable{id:Int} {i:Nat} {l:List (List Ab.Timer)}
theorem Iz:wi id 0 l=l:=by simp[wi]
theorem X9 (h:l.length≤i):wi id i l=l.map (without id):=by unfold wi;rw[List.take_of_length_le h,List.drop_eq_nil_of_le h,List.append_nil]
theorem He:(wi id i l).length=l.length:=by simp[wi];omega
theorem Hf {a:List Ab.Timer} (h:l[i]? =some a):(wi id i l)[i]? =some a:=by
 have hi:=(List.getElem?_eq_some_iff.1 h).1
 unfold wi
 rw[List.getElem?_append_right (by simp;omega),List.getElem?_drop]
 have:i+(i - (List.map (without id) (List.take i l)).length)=i:=by simp;omega
 rw[this];exact h
theorem GZ {a:List Ab.Timer} (h:l[i]? =some a):(wi id i l).set i (without id a)=wi id (i+1) l:=by
 have hi:=(List.getElem?_eq_some_iff.1 h).1
 obtain⟨x,hx,hd,htk⟩:=aP hi
 rw[h] at hx;cases hx
 unfold wi
 rw[List.set_append_right _ _ (by simp;omega),htk,hd]
 have:i - (List.map (without id) (List.take i l)).length=0:=by simp;omega
 rw[this];simp
end
section
variable{P:Program} {n b0 off i:Nat} {h g:AH} {u e0 v:AV} {xs:List (List Ab.Timer)} {l':List Ab.Timer} {F Fi R f':List Nat} {Q:Nat→List AV→AH→Prop} {K:AV→Prog}
theorem Ws (el:Elt (List Ab.Timer) n h b0 (off+i * Cel.w (List Ab.Timer)) [e0] u xs i R) (lt:∀ c∈F,c < h.n) (mR:∀ c∈R,c∈F) (mF:∀ c∈Fi,c∈F) (hd:∀ c∈Fi,c ∉ R) (k:Kp h g Fi) (q:au g v l' f') (o:Own n g f') (m:∀ c∈f',c∈Fi∨h.n≤c)
  (hk:∀ h2 F',au h2 u (xs.set i l') F'→Own n h2 F'→(∀ c∈F',c∈F∨h.n≤c)→Kp h h2 F→Kp g h2 [b0]→h2.n=g.n→(K (.tup [])).awp P h2 Q):(Prog.op (.st 1 (.ptr b0 (off+i * 1)) v) K).awp P g Q:=by
 have hkn:=k.1
 have el1:=el.kp k fun x hx hX=>hd x hX hx
 refine Elt.st0 (o:=off+i * 1) el1 q.cell rfl aX ?_
 intro h2 el2 k2 n2
 have nb:b0 ∉ f':=fun hm=>by
  rcases m b0 hm with a|a
  ·exact hd b0 a el.mem
  ·have:=el.lt;omega
 obtain⟨F',q',o',m'⟩:=el2.done (x':=l') (Fi':=f') ⟨_,rfl,aL k2 q (jh nb)⟩ (dD k2 ⟨o,q.lt⟩ (jh nb)).1 fun x hx hX=>by
  rcases m x hx with a|a
  ·exact hd x a hX
  ·have:=lt x (mR x hX);omega
 refine hk h2 F' q' o' (fun c hc=>?_) ((k.mono mF).trans (k2.mono fun x hx=>by rw[List.mem_singleton.1 hx];exact mR b0 el.mem)) k2 n2
 rcases m' c hc with a|a
 ·exact .inl (mR c a)
 ·exact(m c a).imp (mF c) id
end
def CJ (base:AH) (c:Nat) (now:Int) (a0 a1 a2:AV) (L0 L1:List (List Ab.Timer)) (L2:List Ab.Timer) (h:AH):Prop:=Ext base h∧base.n≤c∧∃ G0 G1 G2,Bk h c [.int .i64 now,a0,a1,a2] 0∧au h a0 L0 G0∧au h a1 L1 G1∧au h a2 L2 G2∧iy base.n h c [G0,G1,G2]
section
variable{base h:AH} {c:Nat} {now:Int} {a0 a1 a2:AV} {L0 L1:List (List Ab.Timer)} {L2:List Ab.Timer}
theorem CJ.set0 (J:CJ base c now a0 a1 a2 L0 L1 L2 h) {i:Nat} {x l':List Ab.Timer} (hx:L0[i]? =some x):∃ b0 off Fi e0,a0= .sl b0 off L0.length∧At h b0 (off+i * 1) [e0]∧au h e0 x Fi∧Own base.n h Fi∧b0 < h.n∧c ∉ Fi∧b0 ∉ Fi∧(∀ {g:AH} {v:AV} {f':List Nat} {P:Program} {Q:Nat→List AV→AH→Prop} {K:AV→Prog},Kp h g Fi→au g v l' f'→Own base.n g f'→(∀ d∈f',d∈Fi∨h.n≤d)→(∀ h2,CJ base c now a0 a1 a2 (L0.set i l') L1 L2 h2→(K (.tup [])).awp P h2 Q)→(Prog.op (.st 1 (.ptr b0 (off+i * 1)) v) K).awp P g Q):=by
 obtain⟨e2,hbc,G0,G1,G2,bk,q0,q1,q2,sp⟩:=J
 have hc:=bk.1
 obtain⟨b0,off,E,Fi,R,ev,⟨e0,rfl,re⟩,oF,el,hd,mR,mF⟩:=q0.elt (sp.own 0 _ rfl).1.1 hx
 refine⟨b0,off,Fi,e0,ev,el.at_,re,oF.1,el.lt,fun hm=>(sp.own 0 _ rfl).2 (mF c hm),fun hm=>hd b0 hm el.mem,fun{g v f' P Q K} k q o m hk=>?_⟩
 refine Ws el q0.lt mR mF hd k q o m fun h2 F' q' o' m' K' _ _=>hk h2 ?_
 have K2:Kp h h2 (c::G0):=K'.mono fun d hd=>List.mem_cons_of_mem _ hd
 have sp2:=sp.jG (i:=0) (h':=h2) (f:=F') rfl K2 ⟨o',q'.lt⟩ (fun hm=>by
  rcases m' c hm with a|a
  ·exact(sp.own 0 _ rfl).2 a
  ·omega) fun d hd=>(m' d hd).imp id fun a hm=>by have:=sp.flat.2 d hm;omega
 refine⟨Kp.ext e2 K' fun d hd=>((sp.own 0 _ rfl).1.1.2 d hd).1,hbc,F',G1,G2,bF K' bk (sp.own 0 _ rfl).2,q',aL K' q1 fun d hd hX=>sp.dis 1 0 _ _ (by decide) rfl rfl d hd hX,aL K' q2 fun d hd hX=>sp.dis 2 0 _ _ (by decide) rfl rfl d hd hX,sp2⟩
theorem CJ.set1 (J:CJ base c now a0 a1 a2 L0 L1 L2 h) {i:Nat} {x l':List Ab.Timer} (hx:L1[i]? =some x):∃ b0 off Fi e0,a1= .sl b0 off L1.length∧At h b0 (off+i * 1) [e0]∧au h e0 x Fi∧Own base.n h Fi∧b0 < h.n∧c ∉ Fi∧b0 ∉ Fi∧(∀ {g:AH} {v:AV} {f':List Nat} {P:Program} {Q:Nat→List AV→AH→Prop} {K:AV→Prog},Kp h g Fi→au g v l' f'→Own base.n g f'→(∀ d∈f',d∈Fi∨h.n≤d)→(∀ h2,CJ base c now a0 a1 a2 L0 (L1.set i l') L2 h2→(K (.tup [])).awp P h2 Q)→(Prog.op (.st 1 (.ptr b0 (off+i * 1)) v) K).awp P g Q):=by
 obtain⟨e2,hbc,G0,G1,G2,bk,q0,q1,q2,sp⟩:=J
 have hc:=bk.1
 obtain⟨b0,off,E,Fi,R,ev,⟨e0,rfl,re⟩,oF,el,hd,mR,mF⟩:=q1.elt (sp.own 1 _ rfl).1.1 hx
 refine⟨b0,off,Fi,e0,ev,el.at_,re,oF.1,el.lt,fun hm=>(sp.own 1 _ rfl).2 (mF c hm),fun hm=>hd b0 hm el.mem,fun{g v f' P Q K} k q o m hk=>?_⟩
 refine Ws el q1.lt mR mF hd k q o m fun h2 F' q' o' m' K' _ _=>hk h2 ?_
 have K2:Kp h h2 (c::G1):=K'.mono fun d hd=>List.mem_cons_of_mem _ hd
 have sp2:=sp.jG (i:=1) (h':=h2) (f:=F') rfl K2 ⟨o',q'.lt⟩ (fun hm=>by
  rcases m' c hm with a|a
  ·exact(sp.own 1 _ rfl).2 a
  ·omega) fun d hd=>(m' d hd).imp id fun a hm=>by have:=sp.flat.2 d hm;omega
 refine⟨Kp.ext e2 K' fun d hd=>((sp.own 1 _ rfl).1.1.2 d hd).1,hbc,G0,F',G2,bF K' bk (sp.own 1 _ rfl).2,aL K' q0 fun d hd hX=>sp.dis 0 1 _ _ (by decide) rfl rfl d hd hX,q',aL K' q2 fun d hd hX=>sp.dis 2 1 _ _ (by decide) rfl rfl d hd hX,sp2⟩
end
end Go.Proofs.YtkdjapahgmflbaaGreat
