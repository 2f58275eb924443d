import Derived.Test.YtkdjapahgmflbaaGreatDK4
set_option linter.unusedSimpArgs false
set_option linter.unusedVariables false
section
namespace Go.Ab
open Go.RowKit
section
variable{α:Type} (key:α→Int)
end
section
variable{α:Type} {key:α→Int} {xs ys zs us vs ws:List α}
end
section
variable{α:Type}
end
section
variable{α:Type} {key:α→Int}
end
end Go.Ab
end
section
namespace Go.Ab
open Go.RowKit
section
variable{α:Type} [Cel α] {P:Program} {h:AH}
end
end Go.Ab
end
section
namespace Go.Ab
open Go.RowKit
structure iy (n:Nat) (h:AH) (b:Nat) (L:List (List Nat)):Prop where
 own:∀ (i:Nat) (G:List Nat),L[i]? =some G→bO n h G∧b ∉ G
 dis:∀ (i j:Nat) (G H:List Nat),i≠j→L[i]? =some G→L[j]? =some H→∀ c∈G,c ∉ H
section
variable{n b:Nat} {h h':AH} {L:List (List Nat)}
theorem jV {i j:Nat} {f G:List Nat} (e:(L.set i f)[j]? =some G):(j=i∧G=f)∨(j≠i∧L[j]? =some G):=by
 rw[List.getElem?_set] at e
 split at e
 ·rename_i hij
  split at e
  ·cases e;exact .inl ⟨hij.symm,rfl⟩
  ·cases e
 ·rename_i hij;exact .inr ⟨fun e=>hij e.symm,e⟩
theorem iy.keep (s:iy n h b L) (k:Kp h h' [b]):iy n h' b L:=
 ⟨fun j G hG=>by
  have:=s.own j G hG
  exact⟨dD k this.1 fun c hc hX=>this.2 (List.mem_singleton.1 hX▸hc),this.2⟩,s.dis⟩
theorem iy.ext (s:iy n h b L) (e:Ext h h'):iy n h' b L:=
 ⟨fun j G hG=>⟨iN e (s.own j G hG).1,(s.own j G hG).2⟩,s.dis⟩
end
structure WV where
 v0:AV
 v1:AV
 v2:AV
 v3:AV
 v4:AV
 v5:AV
 v6:AV
 v7:AV
 v8:AV
 v9:AV
 v10:AV
structure WF where
 f0:List Nat
 f1:List Nat
 f2:List Nat
 f3:List Nat
 f4:List Nat
 f5:List Nat
 f6:List Nat
 f7:List Nat
 f8:List Nat
 f9:List Nat
 f10:List Nat
def WF.l (F:WF):List (List Nat):=[F.f0,F.f1,F.f2,F.f3,F.f4,F.f5,F.f6,F.f7,F.f8,F.f9,F.f10]
abbrev Wld.cv (x:Wld) (V:WV):List AV:=x.cs V.v0 V.v1 V.v2 V.v3 V.v4 V.v5 V.v6 V.v7 V.v8 V.v9 V.v10
structure PW (n:Nat) (h:AH) (b:Nat) (x:Wld) (V:WV) (F:WF):Prop where
 bk:Bk h b (x.cv V) 0
 nb:n≤b
 sep:iy n h b F.l
 r0:au h V.v0 x.c.rule.l F.f0
 r1:au h V.v1 x.st F.f1
 r2:au h V.v2 x.cache F.f2
 r3:au h V.v3 x.w.near F.f3
 r4:au h V.v4 x.w.far F.f4
 r5:au h V.v5 x.w.rest F.f5
 r6:au h V.v6 x.due F.f6
 r7:au h V.v7 x.queue F.f7
 r8:au h V.v8 x.out F.f8
 r9:au h V.v9 x.tasks F.f9
 r10:au h V.v10 x.aF F.f10
section
variable{n b:Nat} {h h':AH} {x:Wld} {V:WV} {F:WF}
theorem PW.n0 (w:PW n h b x V F):b ∉ F.f0:=(w.sep.own 0 _ rfl).2
theorem PW.o1 (w:PW n h b x V F):Own n h F.f1:=(w.sep.own 1 _ rfl).1.1
theorem PW.n1 (w:PW n h b x V F):b ∉ F.f1:=(w.sep.own 1 _ rfl).2
theorem PW.n2 (w:PW n h b x V F):b ∉ F.f2:=(w.sep.own 2 _ rfl).2
theorem PW.n3 (w:PW n h b x V F):b ∉ F.f3:=(w.sep.own 3 _ rfl).2
theorem PW.n4 (w:PW n h b x V F):b ∉ F.f4:=(w.sep.own 4 _ rfl).2
theorem PW.n5 (w:PW n h b x V F):b ∉ F.f5:=(w.sep.own 5 _ rfl).2
theorem PW.o6 (w:PW n h b x V F):Own n h F.f6:=(w.sep.own 6 _ rfl).1.1
theorem PW.l6 (w:PW n h b x V F):bO n h F.f6:=(w.sep.own 6 _ rfl).1
theorem PW.n6 (w:PW n h b x V F):b ∉ F.f6:=(w.sep.own 6 _ rfl).2
theorem PW.o7 (w:PW n h b x V F):Own n h F.f7:=(w.sep.own 7 _ rfl).1.1
theorem PW.n7 (w:PW n h b x V F):b ∉ F.f7:=(w.sep.own 7 _ rfl).2
theorem PW.n8 (w:PW n h b x V F):b ∉ F.f8:=(w.sep.own 8 _ rfl).2
theorem PW.o9 (w:PW n h b x V F):Own n h F.f9:=(w.sep.own 9 _ rfl).1.1
theorem PW.l9 (w:PW n h b x V F):bO n h F.f9:=(w.sep.own 9 _ rfl).1
theorem PW.n9 (w:PW n h b x V F):b ∉ F.f9:=(w.sep.own 9 _ rfl).2
theorem PW.o10 (w:PW n h b x V F):Own n h F.f10:=(w.sep.own 10 _ rfl).1.1
theorem PW.l10 (w:PW n h b x V F):bO n h F.f10:=(w.sep.own 10 _ rfl).1
theorem PW.n10 (w:PW n h b x V F):b ∉ F.f10:=(w.sep.own 10 _ rfl).2
theorem PW.ext (w:PW n h b x V F) (e:Ext h h'):PW n h' b x V F:=⟨dX e w.bk,w.nb,w.sep.ext e,w.r0.ext e,w.r1.ext e,w.r2.ext e,w.r3.ext e,w.r4.ext e,w.r5.ext e,w.r6.ext e,w.r7.ext e,w.r8.ext e,w.r9.ext e,w.r10.ext e⟩
theorem PW.put (w:PW n h b x V F) {x':Wld} (bk:Bk h' b (x'.cv V) 0) (k:Kp h h' [b]) (e0:x'.c.rule.l=x.c.rule.l:=by rfl) (e1:x'.st=x.st:=by rfl) (e2:x'.cache=x.cache:=by rfl) (e3:x'.w.near=x.w.near:=by rfl) (e4:x'.w.far=x.w.far:=by rfl) (e5:x'.w.rest=x.w.rest:=by rfl) (e6:x'.due=x.due:=by rfl) (e7:x'.queue=x.queue:=by rfl) (e8:x'.out=x.out:=by rfl) (e9:x'.tasks=x.tasks:=by rfl) (e10:x'.aF=x.aF:=by rfl):PW n h' b x' V F:=
 ⟨bk,w.nb,w.sep.keep k,by rw[e0];exact aL k w.r0 fun c hc hX=>w.n0 (List.mem_singleton.1 hX▸hc),by rw[e1];exact aL k w.r1 fun c hc hX=>w.n1 (List.mem_singleton.1 hX▸hc),by rw[e2];exact aL k w.r2 fun c hc hX=>w.n2 (List.mem_singleton.1 hX▸hc),by rw[e3];exact aL k w.r3 fun c hc hX=>w.n3 (List.mem_singleton.1 hX▸hc),by rw[e4];exact aL k w.r4 fun c hc hX=>w.n4 (List.mem_singleton.1 hX▸hc),by rw[e5];exact aL k w.r5 fun c hc hX=>w.n5 (List.mem_singleton.1 hX▸hc),by rw[e6];exact aL k w.r6 fun c hc hX=>w.n6 (List.mem_singleton.1 hX▸hc),by rw[e7];exact aL k w.r7 fun c hc hX=>w.n7 (List.mem_singleton.1 hX▸hc),by rw[e8];exact aL k w.r8 fun c hc hX=>w.n8 (List.mem_singleton.1 hX▸hc),by rw[e9];exact aL k w.r9 fun c hc hX=>w.n9 (List.mem_singleton.1 hX▸hc),by rw[e10];exact aL k w.r10 fun c hc hX=>w.n10 (List.mem_singleton.1 hX▸hc)⟩
end
section
variable{a b c:AH} {X G:List Nat}
theorem Kp.new (k:Kp a b X) (k':Kp b c G) (hG:∀ x∈G,a.n≤x):Kp a c X:=⟨Nat.le_trans k.1 k'.1,fun x hx hX=>(k'.2 x (Nat.lt_of_lt_of_le hx k.1) fun hg=>by have:=hG x hg;omega).trans (k.2 x hx hX)⟩
theorem Kp.uy (k:Kp a b X) {i:Nat} (hi:i∈X) (kk:Blk):Kp a (b.upd i kk) X:=⟨k.1,fun x hx hX=>by
 have:x≠i:=fun e=>hX (e▸hi)
 simp only[gY,this,if_false];exact k.2 x hx hX⟩
theorem Kp.push (k:Kp a b X) (kk:Blk):Kp a (b.push kk) X:=⟨Nat.le_trans k.1 (Nat.le_succ _),fun x hx hX=>by
 have:x≠b.n:=by have:=k.1;omega
 simp only[Gj,this,if_false];exact k.2 x hx hX⟩
end
section
variable{P:Program} {h:AH} {Q:Nat→List AV→AH→Prop} {p:Prog}
theorem fU {c:List AV} {v:AV} (x:(Prog.chk (.alloc c) v p).awp P h Q):(Prog.chk (.alloc c) v p).awp P h Q:=x
theorem Yw {es n:Nat} {z:List AV} {ps:List (Nat × Nat × AV)} {v:AV} (x:(Prog.chk (.aU es n z ps) v p).awp P h Q):(Prog.chk (.aU es n z ps) v p).awp P h Q:=x
theorem fT {b:Nat} {c:List AV} (a:Bk h b c 0) (hk:p.awp P h Q):(Prog.chk (.alloc c) (.ptr b 0) p).awp P h Q:=by
 refine yU ?_ hk
 simp only[AOp.still]
 exact⟨by rw[a.2],by rw[a.2],by rw[a.2]⟩
theorem MF {b es n:Nat} {z cs:List AV} {ps:List (Nat × Nat × AV)} (a:Bk h b cs es) (hc:cZ z ps=some cs) (h1:n * es≤16777216) (h2:cs.length=n * es) (hk:p.awp P h Q):(Prog.chk (.aU es n z ps) (.sl b 0 n) p).awp P h Q:=by
 refine yU ?_ hk
 simp only[AOp.still,hc]
 exact⟨trivial,h1,h2,by rw[a.2],by rw[a.2],by rw[a.2]⟩
end
section
variable{α:Type} [Cel α] {P:Program} {h h':AH} {Q:Nat→List AV→AH→Prop} {k:AV→Prog} {p:Prog}
theorem Ck {n:Nat} {a x:AV} (y:(Prog.op (.st n a x) k).awp P h Q):(Prog.op (.st n a x) k).awp P h Q:=y
theorem zf {n:Nat} {a:AV} (y:(Prog.op (.ldn n a) k).awp P h Q):(Prog.op (.ldn n a) k).awp P h Q:=y
theorem YZ {n:Nat} {a v:AV} (y:(Prog.chk (.ldn n a) v p).awp P h Q):(Prog.chk (.ldn n a) v p).awp P h Q:=y
theorem yS {n:Nat} {zero cs:List AV} (hl:cs.length=n) (hz:zero.length=n) (hk:(k (.tup [])).awp P (h.push ⟨cs,0,0⟩) Q):(Prog.op (.st n (.ptr h.n 0) (.agg cs)) k).awp P (h.push ⟨zero,0,0⟩) Q:=by
 refine yL rfl hl (by omega) ?_
 rw[xO (by omega)];exact hk
theorem tT {n b:Nat} {cs:List AV} (a:Bk h b cs 0) (hl:cs.length=n) (h0:0 < n) (hk:(k (.agg cs)).awp P h Q):(Prog.op (.ldn n (.ptr b 0)) k).awp P h Q:=
 jf (pI a) (Ext.refl _) h0 (List.take_of_length_le (by omega)) hl hk
theorem MR {n b:Nat} {cs:List AV} (a:Bk h b cs 0) (hl:cs.length=n) (h0:0 < n) (hk:p.awp P h Q):(Prog.chk (.ldn n (.ptr b 0)) (.agg cs) p).awp P h Q:=by
 refine yU ?_ hk
 show live h b∧0+n≤(h.get b).cells.length∧((AV.agg (((h.get b).cells.drop 0).take n))= .agg cs∧h=h)
 refine⟨by simp[live,a.2],by rw[a.2];simp;omega,?_,rfl⟩
 rw[a.2];simp only[List.drop_zero];rw[List.take_of_length_le (by omega)]
theorem BL {x:α} {cs:List AV} {F X:List Nat} (k:Kp h h' X) (r:Cel.rep h x cs F) (d:∀ c∈F,c ∉ X):Cel.rep h' x cs F:=
 Cel.keep r fun c hc=>⟨k.2 c (Cel.lt r c hc) (d c hc),Nat.lt_of_lt_of_le (Cel.lt r c hc) k.1⟩
end
end Go.Ab
end
section
namespace Go.Ab
open Go.RowKit
section
variable{P:Program} {h:AH} {Q:Nat→List AV→AH→Prop} {k:AV→Prog}
end
class SEl (α:Type) [Cel α] where
 lo:AV→AOp
 v:List AV→AV
 ld:∀ {P:Program} {h h0:AH} {b o:Nat} {x:α} {cs:List AV} {F:List Nat} {k:AV→Prog} {Q:Nat→List AV→AH→Prop},At h b o cs→Cel.rep h0 x cs F→(k (v cs)).awp P h Q→(Prog.op (lo (.ptr b o)) k).awp P h Q
 vc:∀ {h:AH} {x:α} {cs:List AV} {F:List Nat},Cel.rep h x cs F→(v cs).cells? =some cs
instance:SEl Int where
 lo:=.ld1
 v:=fun cs=>cs.headD .un
 ld:=by
  intro P h h0 b o x cs F k Q a r hk
  obtain⟨rfl,_⟩:=r
  exact vF a (Ext.refl _) hk
 vc:=by
  intro h x cs F r
  obtain⟨rfl,_⟩:=r
  rfl
instance:SEl Trail where
 lo:=.ldn 4
 v:=.agg
 ld:=by
  intro P h h0 b o x cs F k Q a r hk
  have hl:cs.length=4:=Cel.len r
  exact jf a (Ext.refl _) (by decide) (List.take_of_length_le (by omega)) hl hk
 vc:=fun _=>rfl
section
variable{α:Type} [Cel α] {P:Program} {h h':AH} {n:Nat}
end
section
variable{α:Type} [Cel α] [SEl α] {P:Program} {h h':AH} {Q:Nat→List AV→AH→Prop} {n:Nat}
end
section
variable{α:Type} [Cel α] [SEl α] {P:Program} {n:Nat} {key:α→Int} {U0:α→Prop}
end
section
variable{α:Type} [Cel α] {P:Program} {n:Nat}
end
section
variable{α:Type} [Cel α] [SEl α] {P:Program} {n:Nat} {key:α→Int} {U0:α→Prop}
end
end Go.Ab
end
section
namespace Go.Ab
open Go.RowKit
section
variable{α:Type} [Cel α] [SEl α] {P:Program} {n:Nat} {key:α→Int} {U0:α→Prop}
end
end Go.Ab
end
section
namespace Go.Ab
open Go.RowKit
section
variable{α:Type} [Cel α] [SEl α] {P:Program} {n:Nat} {key:α→Int} {U0:α→Prop}
end
end Go.Ab
end
section
namespace Go.Ab
open Go.RowKit
section
variable{α:Type} [Cel α] [SEl α] {P:Program} {n:Nat} {key:α→Int} {U0:α→Prop}
end
end Go.Ab
end
section
namespace Go.Ab
open Go.RowKit
section
variable{α:Type} [Cel α] {P:Program} {h:AH} {Q:Nat→List AV→AH→Prop} {k:AV→Prog} {n:Nat}
theorem au.cut {v:AV} {xs:List α} {F:List Nat} (r:au h v xs F) (o:Own n h F) {k:Nat} (hk:k≤xs.length):
  ∃ u1 u2 B E1 E2,F=B++(E1++E2)∧au h u1 (xs.take k) (B++E1)∧(B++E1).tail=E1∧au h u2 (xs.drop k) (B++E2)∧(B++E2).tail=E2∧
   (∀ (h2:AH) (K:AV→AH→Prop),(∀ c∈B,h2.get c=h.get c)→K u1 h2→AOp.go P (.slc (Cel.w α) v none (some (.int .i64 (k:Int))) none) h2 K)∧
   (∀ (h2:AH) (K:AV→AH→Prop),(∀ c∈B,h2.get c=h.get c)→K u2 h2→AOp.go P (.slc (Cel.w α) v (some (.int .i64 (k:Int))) none none) h2 K):=by
 rcases r with⟨rfl,h1,rfl⟩|⟨b,off,F',cs,rfl,rfl,h1,h2,h3,h4,h5,h6,h7⟩
 ·have hx:xs=[]:=List.length_eq_zero_iff.1 h1
  subst hx
  have hk0:k=0:=by simpa using hk
  subst hk0
  refine⟨.aC,.aC,[],[],[],rfl,au.aC,rfl,au.aC,rfl,fun h2 K _ hK=>?_,fun h2 K _ hK=>?_⟩
  ·simp only[AOp.go,bnd,lI]
   exact⟨by trivial,by trivial,by trivial,hK⟩
  ·simp only[AOp.go,bnd,lI]
   exact⟨by trivial,by trivial,by trivial,hK⟩
 ·have hsp:xs=xs.take k++xs.drop k:=(List.take_append_drop _ _).symm
  have h7':=h7
  rw[hsp] at h7'
  obtain⟨c1,c2,E1,E2,e1,rfl,q1,q2⟩:=h7'.yj
  have l1:=q1.length
  have l2:=q2.length
  rw[List.length_take,Nat.min_eq_left hk] at l1
  rw[List.length_drop] at l2
  have hst:(h.get b).st=0:=(o.2 b (by simp)).2
  have hw:=Cel.pos (α:=α)
  have hmul:xs.length * Cel.w α=k * Cel.w α+(xs.length - k) * Cel.w α:=by rw[←Nat.add_mul];congr 1;omega
  have ec:=h6
  rw[e1] at ec
  have t1:c1=((h.get b).cells.drop off).take (k * Cel.w α):=by
   have:=congrArg (List.take (k * Cel.w α)) ec
   rw[List.take_append_of_le_length (by omega),List.take_of_length_le (by omega),List.take_take,Nat.min_eq_left (by omega)] at this
   exact this
  have t2:c2=((h.get b).cells.drop (off+k * Cel.w α)).take ((xs.length - k) * Cel.w α):=by
   have:=congrArg (List.drop (k * Cel.w α)) ec
   rw[List.drop_append_of_le_length (by omega),List.drop_of_length_le (by omega),List.nil_append,List.drop_take,List.drop_drop] at this
   rw[this];congr 1;omega
  refine⟨.sl b off k,.sl b (off+k * Cel.w α) (xs.length - k),[b],E1,E2,rfl,.inr ⟨b,off,E1,c1,by rw[List.length_take,Nat.min_eq_left hk],rfl,h1,h2,h3,?_,?_,?_,q1⟩,rfl,.inr ⟨b,off+k * Cel.w α,E2,c2,by rw[List.length_drop],rfl,h1,h2,h3,?_,?_,?_,q2⟩,rfl,fun h2 K hb hK=>?_,fun h2 K hb hK=>?_⟩
  ·rw[List.length_take,Nat.min_eq_left hk];omega
  ·rw[List.length_take,Nat.min_eq_left hk];omega
  ·rw[List.length_take,Nat.min_eq_left hk];exact t1
  ·rw[List.length_drop];omega
  ·rw[List.length_drop];omega
  ·rw[List.length_drop];exact t2
  ·have hb:=hb b (by simp)
   simp only[AOp.go,bnd,lI]
   have hle:k * Cel.w α≤xs.length * Cel.w α:=Nat.mul_le_mul_right _ hk
   refine⟨by omega,by rw[hb];exact h3,by unfold mine;rw[hb];exact hst,by rw[hb];exact h4,Int.le_refl _,Int.natCast_nonneg _,by rw[hb];simp;omega,?_⟩
   simpa using hK
  ·have hb:=hb b (by simp)
   simp only[AOp.go,bnd,lI]
   refine⟨by omega,by rw[hb];exact h3,by unfold mine;rw[hb];exact hst,by rw[hb];exact h4,Int.natCast_nonneg _,by omega,by rw[hb];simpa using h4,?_⟩
   have:((xs.length:Int) - (k:Int)).toNat=xs.length - k:=by omega
   simpa[this] using hK
theorem Iy {o:AOp} (g:o.go P h fun v h'=>(k v).awp P h' Q):(Prog.op o k).awp P h Q:=g
end
end Go.Ab
end
section
namespace Go.Ab
open Go.RowKit Go.ChangeShapes
instance:Cel UInt8 where
 w:=1
 ok:=fun _=>True
 rep:=fun h x cs F=>cs=[.int .u8 (x.toNat:Int)]∧F=[]
 pos:=by decide
 len:=by rintro h x cs F ⟨rfl,rfl⟩;rfl
 lt:=by rintro h x cs F ⟨rfl,rfl⟩;simp
 keep:=by rintro h h' x cs F r _;exact r
section
variable{P:Program}
end
section
variable{P:Program} {h:AH} {Q:Nat→List AV→AH→Prop} {k:AV→Prog}
theorem aW {b o:Nat} (hk:(k (.ptr b o)).awp P h Q):(Prog.op (.bg (.ptr b o)) k).awp P h Q:=hk
theorem Mx {a b:Int} (h1: -9223372036854775808≤a * b) (h2:a * b≤9223372036854775807) (hk:(k (.int .i64 (a * b))).awp P h Q):(Prog.op (.bin 0 .mul (.int .i64 a) (.int .i64 b)) k).awp P h Q:=XZ (by rw[kL h1 h2];exact hk)
end
theorem XA {A B:Prop} (s:A→B:=by(first|(with_reducible first|exact dM|exact dP|exact Nk|exact nN|exact jD|exact GX|exact dQ|exact yg|exact vE|exact alA|exact qx|exact tu|exact H9|exact vG|exact vH|exact Bd|exact Bf|exact Wd|exact Lr|exact eY|exact MC|exact qj|exact jW|exact Xg|exact Xe|exact Ye|exact Yd|exact YD|exact MV|exact Xf|exact FU|exact FX|exact FW|exact LA|exact ajL)|((with_reducible apply tQ);first|exact qU yJ)|((with_reducible apply tO);first|exact qR yB)|((with_reducible apply tN);first|exact tX (by assumption))|((with_reducible apply yQ);first|exact mX (by rfl))|((with_reducible apply uh);first|exact kU (by first|rfl|exact au.cell (by assumption)) (by rfl) Mf)|((with_reducible apply qM);first|exact nO (by rfl))|((with_reducible apply alm);first|exact alD (by rfl))|((with_reducible apply yR);first|exact jc (by omega)|exact vX (by omega) (by omega))|((with_reducible apply HV);exact GV (by omega) (by omega))|((with_reducible apply MO);exact BZ (by decide))|((with_reducible apply HY);exact Ih (by omega) (by decide) (by omega))|((with_reducible apply vN);first|exact vP l7)|((with_reducible apply xZ);first|exact zo l7 (by decide) (by rfl))|((with_reducible apply BA);exact BK yB)|((with_reducible apply qD);exact qE yJ)|((with_reducible apply XO);exact sx1 (by assumption))|((with_reducible apply XP);exact Xc lZ)|((with_reducible apply GQ);exact vO lZ lZ)|((with_reducible apply aln);exact akN lZ lZ lZ)|(exact qh (by decide))|(exact tJ (by decide)))):A→B:=s
theorem vs0 {A B:Prop} (hb:B) (s:B→A:=by((apply it;exact XA);(repeat(apply it;exact XA));exact fun x=>x)):A:=s hb
section
variable{P:Program} {h:AH} {Q:Nat→List AV→AH→Prop}
end
section
variable{g h h':AH} {c b:Nat} {k:Blk} {X:List Nat}
theorem XI (hb:g.n≤b) (e:Kp g h X):Kp g (h.upd b k) X:=by
 refine⟨e.1,fun x hx hX=>?_⟩
 have:x≠b:=by omega
 rw[←e.2 x hx hX]
 simp[this]
theorem alj (e':Kp h h' X) (e:Kp g h X):Kp g h' X:=e.trans e'
theorem WH (e':Ext h h') (e:Kp g h X):Kp g h' X:=e.AZ e'
theorem akz {Y:List Nat} (e':Kp h h' Y) (e:Kp g h X) (hY:∀ x∈Y,g.n≤x):Kp g h' X:=e.new e' hY
end
theorem Mr {g h:AH} {X:List Nat} (a:Kp g h X:=by(repeat(first|assumption|with_reducible exact Kp.refl _ _|with_reducible apply Kp.push|((with_reducible apply XI);exact aO)|((with_reducible apply alj);assumption)|((with_reducible apply WH);assumption)|((with_reducible apply akz);assumption)|exact XF (by assumption) aO|exact aO))):Kp g h X:=a
end Go.Ab
end
section
namespace Go.Ab
open Go.RowKit
structure Elt (α:Type) [Cel α] (n:Nat) (h:AH) (b o:Nat) (E:List AV) (v:AV) (xs:List α) (i:Nat) (R:List Nat):Prop where
 lt:b < h.n
 mem:b∈R
 own:bO n h R
 st:∃ A Z,h.get b=⟨A++(E++Z),Cel.w α,0⟩∧A.length=o∧
  ∀ (h':AH) (x':α) (E':List AV) (Fi':List Nat),h'.get b=⟨A++(E'++Z),Cel.w α,0⟩→h.n≤h'.n→(∀ c∈R,c≠b→h'.get c=h.get c)→Cel.rep h' x' E' Fi'→Own n h' Fi'→(∀ c∈Fi',c ∉ R)→∃ F',au h' v (xs.set i x') F'∧Own n h' F'∧∀ c∈F',c∈R∨c∈Fi'
section
variable{α:Type} [Cel α] {P:Program} {n b o i:Nat} {g h h':AH} {E E':List AV} {v:AV} {xs:List α} {R X F:List Nat} {Q:Nat→List AV→AH→Prop} {k:AV→Prog}
theorem Bh {b:Nat} {F1 G F2:List Nat}:(b::(F1++(G++F2))).Perm ((b::(F1++F2))++G):=by
 rw[List.cons_append,List.append_assoc]
 exact List.Perm.cons _ (List.Perm.append_left _ List.perm_append_comm)
theorem Wz {F G:List Nat} (p:F.Perm G) (o:Own n h G):Own n h F:=⟨p.nodup_iff.2 o.1,fun b hb=>o.2 b (p.mem_iff.1 hb)⟩
theorem au.elt (r:au h v xs F) (ow:Own n h F) {x:α} (hx:xs[i]? =some x):∃ b off E Fi R,v= .sl b off xs.length∧Cel.rep h x E Fi∧bO n h Fi∧Elt α n h b (off+i * Cel.w α) E v xs i R∧(∀ c∈Fi,c ∉ R)∧(∀ c∈R,c∈F)∧∀ c∈Fi,c∈F:=by
 have lt:=r.lt
 obtain⟨b,off,A,E,Z,F1,Fi,F2,rfl,rfl,hb,hl,hes,hcs,hA,re,back⟩:=r.zip hx
 have hm:(h.get b).st=0:=(ow.2 b (by simp)).2
 have hg:h.get b=⟨A++(E++Z),Cel.w α,0⟩:=by
  have:h.get b=⟨(h.get b).cells,(h.get b).es,(h.get b).st⟩:=rfl
  rw[this,hcs,hes,hm]
 have o2:=Wz Bh.symm ow
 have nd:=List.nodup_append.1 o2.1
 have oR:Own n h (b::(F1++F2)):=⟨nd.1,fun c hc=>o2.2 c (List.mem_append_left _ hc)⟩
 have oF:Own n h Fi:=⟨nd.2.1,fun c hc=>o2.2 c (List.mem_append_right _ hc)⟩
 have mR:∀ c∈b::(F1++F2),c∈b::(F1++(Fi++F2)):=fun c hc=>Bh.mem_iff.2 (List.mem_append_left _ hc)
 have mF:∀ c∈Fi,c∈b::(F1++(Fi++F2)):=fun c hc=>Bh.mem_iff.2 (List.mem_append_right _ hc)
 refine⟨b,off,E,Fi,b::(F1++F2),rfl,re,⟨oF,fun c hc=>lt c (mF c hc)⟩,⟨hb,List.mem_cons_self,⟨oR,fun c hc=>lt c (mR c hc)⟩,⟨A,Z,hg,hA,fun h' x' E' Fi' hg' hn hk re' ow' hd=>?_⟩⟩,fun c hc hR=>nd.2.2 c hR c hc rfl,mR,mF⟩
 have hbn:b ∉ F1++F2:=(List.nodup_cons.1 nd.1).1
 have kk:∀ c∈F1++F2,h'.get c=h.get c∧c < h'.n:=fun c hc=>⟨hk c (List.mem_cons_of_mem _ hc) fun e=>hbn (e▸hc),Nat.lt_of_lt_of_le (lt c (mR c (List.mem_cons_of_mem _ hc))) hn⟩
 refine⟨b::(F1++(Fi'++F2)),back h' x' E' Fi' (by rw[hg']) (by rw[hg']) (by simp[live,hg']) (Nat.lt_of_lt_of_le hb hn) kk re',Wz Bh ⟨List.nodup_append.2 ⟨oR.1,ow'.1,fun a ha c hc e=>hd c hc (e▸ha)⟩,fun c hc=>?_⟩,fun c hc=>List.mem_append.1 (Bh.mem_iff.1 hc)⟩
 rcases List.mem_append.1 hc with q|q
 ·refine⟨(oR.2 c q).1,?_⟩
  rcases List.mem_cons.1 q with e|e
  ·subst e;rw[hg']
  ·rw[(kk c e).1];exact(oR.2 c q).2
 ·exact ow'.2 c q
theorem Elt.at_ (e:Elt α n h b o E v xs i R):At h b o E:=by
 obtain⟨A,Z,hg,hA,_⟩:=e.st
 exact Oe (es:=Cel.w α) (st:=0) e.lt (by simp[live,hg]) (by rw[hg]) hA
theorem Elt.keep (e:Elt α n h b o E v xs i R) (hk:∀ c∈R,h'.get c=h.get c) (hn:h.n≤h'.n):Elt α n h' b o E v xs i R:=by
 obtain⟨A,Z,hg,hA,back⟩:=e.st
 refine⟨Nat.lt_of_lt_of_le e.lt hn,e.mem,⟨e.own.1.mono (Nat.le_refl _) hk,fun c hc=>Nat.lt_of_lt_of_le (e.own.2 c hc) hn⟩,A,Z,by rw[hk b e.mem];exact hg,hA,fun h2 x' E' Fi' hg' hn' hk'=>back h2 x' E' Fi' hg' (Nat.le_trans hn hn') fun c hc hne=>(hk' c hc hne).trans (hk c hc)⟩
theorem Elt.kp (e:Elt α n h b o E v xs i R) (k:Kp h h' X) (hd:∀ c∈R,c ∉ X):Elt α n h' b o E v xs i R:=e.keep (fun c hc=>k.2 c (e.own.2 c hc) (hd c hc)) k.1
theorem Elt.ext (e:Elt α n h b o E v xs i R) (k:Ext h h'):Elt α n h' b o E v xs i R:=e.keep (fun c hc=>k.2 c (e.own.2 c hc)) k.1
theorem Elt.st_ {j m:Nat} {y:AV} {ys:List AV} (e:Elt α n h b o E v xs i R) (hx:y.cells? =some ys) (hn:ys.length=m) (s:SP E j ys E') (hk:∀ h2,Elt α n h2 b o E' v xs i R→Kp h h2 [b]→h2.n=h.n→(k (.tup [])).awp P h2 Q):(Prog.op (.st m (.ptr b (o+j)) y) k).awp P h Q:=by
 obtain⟨A,Z,hg,hA,back⟩:=e.st
 refine Ig hg hA hx hn s ?_
 refine hk _ ⟨by simpa using e.lt,e.mem,⟨⟨e.own.1.1,fun c hc=>⟨(e.own.1.2 c hc).1,?_⟩⟩,fun c hc=>by simpa using e.own.2 c hc⟩,A,Z,by simp,hA,fun h2 x' E2 Fi' hg' hn' hk'=>back h2 x' E2 Fi' hg' (by simpa using hn') fun c hc hne=>by rw[hk' c hc hne];simp[hne]⟩ ⟨by simp,fun c hc hX=>by have:c≠b:=fun q=>hX (q▸List.mem_singleton.2 rfl);simp[this]⟩ (by simp)
 by_cases q:c=b
 ·subst q;simp
 ·simp only[gY,q,if_false];exact(e.own.1.2 c hc).2
theorem Elt.st0 {m:Nat} {y:AV} {ys:List AV} (e:Elt α n h b o E v xs i R) (hx:y.cells? =some ys) (hn:ys.length=m) (s:SP E 0 ys E') (hk:∀ h2,Elt α n h2 b o E' v xs i R→Kp h h2 [b]→h2.n=h.n→(k (.tup [])).awp P h2 Q):(Prog.op (.st m (.ptr b o) y) k).awp P h Q:=e.st_ (j:=0) hx hn s hk
theorem Elt.done (e:Elt α n h b o E v xs i R) {x':α} {Fi':List Nat} (re:Cel.rep h x' E Fi') (ow:Own n h Fi') (hd:∀ c∈Fi',c ∉ R):∃ F',au h v (xs.set i x') F'∧Own n h F'∧∀ c∈F',c∈R∨c∈Fi':=by
 obtain⟨A,Z,hg,hA,back⟩:=e.st
 exact back h x' E Fi' hg (Nat.le_refl _) (fun _ _ _=>rfl) re ow hd
end
end Go.Ab
end
section
namespace Go.Ab
open Go.RowKit
section
variable{n b:Nat} {h h':AH} {L:List (List Nat)}
theorem fE {c:Nat}:c∈L.flatten↔∃ (i:Nat) (G:List Nat),L[i]? =some G∧c∈G:=by
 rw[List.mem_flatten]
 constructor
 ·rintro⟨G,hG,hc⟩
  obtain⟨i,hi⟩:=List.mem_iff_getElem?.1 hG
  exact⟨i,G,hi,hc⟩
 ·rintro⟨i,G,hi,hc⟩;exact⟨G,List.mem_of_getElem? hi,hc⟩
theorem iy.jG (s:iy n h b L) {i:Nat} {F f:List Nat} (hF:L[i]? =some F) (k:Kp h h' (b::F)) (o:bO n h' f) (hb:b ∉ f) (fr:∀ c∈f,c∈F∨c ∉ L.flatten):iy n h' b (L.set i f):=by
 have dj:∀ (j:Nat) (G:List Nat),j≠i→L[j]? =some G→∀ c∈f,c ∉ G:=fun j G hj hG c hc hc'=>by
  rcases fr c hc with h1|h1
  ·exact s.dis i j F G (fun e=>hj e.symm) hF hG c h1 hc'
  ·exact h1 (fE.2 ⟨j,G,hG,hc'⟩)
 refine⟨fun j G hG=>?_,fun j l G H hjl hG hH=>?_⟩
 ·rcases jV hG with⟨_,rfl⟩|⟨hj,hG⟩
  ·exact⟨o,hb⟩
  ·have:=s.own j G hG
   refine⟨dD k this.1 fun c hc hX=>?_,this.2⟩
   rcases List.mem_cons.1 hX with e|e
   ·subst e;exact this.2 hc
   ·exact s.dis j i G F hj hG hF c hc e
 ·rcases jV hG with⟨a1,a2⟩|⟨hj,hG2⟩<;>rcases jV hH with⟨b1,b2⟩|⟨hl,hH2⟩
  ·exact absurd (a1.trans b1.symm) hjl
  ·rw[a2];exact dj l H hl hH2
  ·rw[b2];exact fun c hc hc'=>dj j G hj hG2 c hc' hc
  ·exact s.dis j l G H hjl hG2 hH2
theorem iy.of:∀ {L:List (List Nat)},bO n h L.flatten→b ∉ L.flatten→iy n h b L
 |[],_,_=>⟨by simp,by simp⟩
 |G::L,o,hb=>by
  rw[List.flatten_cons] at o hb
  have r:=iy.of (L:=L) ⟨bD o.1,fun c hc=>o.2 c (List.mem_append_right _ hc)⟩ fun hc=>hb (List.mem_append_right _ hc)
  have d:=mZ o.1
  refine⟨fun i H hH=>?_,fun i j H K hij hH hK=>?_⟩
  ·cases i with
   |zero=>cases hH;exact⟨⟨dA o.1,fun c hc=>o.2 c (List.mem_append_left _ hc)⟩,fun hc=>hb (List.mem_append_left _ hc)⟩
   |succ i=>exact r.own i H hH
  ·cases i with
   |zero=>
    cases hH
    cases j with
    |zero=>exact absurd rfl hij
    |succ j=>exact fun c hc hK'=>d c hc (fE.2 ⟨j,K,hK,hK'⟩)
   |succ i=>
    cases j with
    |zero=>cases hK;exact fun c hc hK'=>d c hK' (fE.2 ⟨i,H,hH,hc⟩)
    |succ j=>exact r.dis i j H K (fun e=>hij (by rw[e])) hH hK
theorem iy.flat:∀ {L:List (List Nat)},iy n h b L→bO n h L.flatten
 |[],_=>al9
 |G::L,s=>by
  rw[List.flatten_cons]
  refine dK (s.own 0 G rfl).1 (iy.flat (L:=L) ⟨fun i H hH=>s.own (i+1) H hH,fun i j H K hij hH hK=>s.dis (i+1) (j+1) H K (fun e=>hij (by omega)) hH hK⟩) fun c hc hm=>?_
  obtain⟨j,H,hH,hc'⟩:=fE.1 hm
  exact s.dis 0 (j+1) G H (by omega) rfl hH c hc hc'
end
def WF.a (F:WF):List Nat:=F.l.flatten
section
variable{n b:Nat} {h h':AH} {x:Wld} {V:WV} {F:WF}
theorem PW.own (w:PW n h b x V F):bO n h F.a:=w.sep.flat
theorem WF.in1 (F:WF):∀ c∈F.f1,c∈F.a:=fun c hc=>fE.2 ⟨1,_,rfl,hc⟩
theorem WF.set1 {f:List Nat} {c:Nat} (hc:c∈({F with f1:=f}:WF).a):c∈f∨c∈F.a:=by
 obtain⟨j,G,hG,hm⟩:=fE.1 hc
 have e:({F with f1:=f}:WF).l=F.l.set 1 f:=rfl
 rw[e] at hG
 rcases jV hG with⟨_,rfl⟩|⟨_,hG⟩
 ·exact .inl hm
 ·exact .inr (fE.2 ⟨j,G,hG,hm⟩)
theorem WF.set2 {f:List Nat} {c:Nat} (hc:c∈({F with f2:=f}:WF).a):c∈f∨c∈F.a:=by
 obtain⟨j,G,hG,hm⟩:=fE.1 hc
 have e:({F with f2:=f}:WF).l=F.l.set 2 f:=rfl
 rw[e] at hG
 rcases jV hG with⟨_,rfl⟩|⟨_,hG⟩
 ·exact .inl hm
 ·exact .inr (fE.2 ⟨j,G,hG,hm⟩)
theorem WF.Ns {f:List Nat} {c:Nat} (hc:c∈({F with f3:=f}:WF).a):c∈f∨c∈F.a:=by
 obtain⟨j,G,hG,hm⟩:=fE.1 hc
 have e:({F with f3:=f}:WF).l=F.l.set 3 f:=rfl
 rw[e] at hG
 rcases jV hG with⟨_,rfl⟩|⟨_,hG⟩
 ·exact .inl hm
 ·exact .inr (fE.2 ⟨j,G,hG,hm⟩)
theorem WF.Y8 {f:List Nat} {c:Nat} (hc:c∈({F with f4:=f}:WF).a):c∈f∨c∈F.a:=by
 obtain⟨j,G,hG,hm⟩:=fE.1 hc
 have e:({F with f4:=f}:WF).l=F.l.set 4 f:=rfl
 rw[e] at hG
 rcases jV hG with⟨_,rfl⟩|⟨_,hG⟩
 ·exact .inl hm
 ·exact .inr (fE.2 ⟨j,G,hG,hm⟩)
theorem WF.ank {f:List Nat} {c:Nat} (hc:c∈({F with f5:=f}:WF).a):c∈f∨c∈F.a:=by
 obtain⟨j,G,hG,hm⟩:=fE.1 hc
 have e:({F with f5:=f}:WF).l=F.l.set 5 f:=rfl
 rw[e] at hG
 rcases jV hG with⟨_,rfl⟩|⟨_,hG⟩
 ·exact .inl hm
 ·exact .inr (fE.2 ⟨j,G,hG,hm⟩)
theorem WF.in6 (F:WF):∀ c∈F.f6,c∈F.a:=fun c hc=>fE.2 ⟨6,_,rfl,hc⟩
theorem WF.Y7 {f:List Nat} {c:Nat} (hc:c∈({F with f6:=f}:WF).a):c∈f∨c∈F.a:=by
 obtain⟨j,G,hG,hm⟩:=fE.1 hc
 have e:({F with f6:=f}:WF).l=F.l.set 6 f:=rfl
 rw[e] at hG
 rcases jV hG with⟨_,rfl⟩|⟨_,hG⟩
 ·exact .inl hm
 ·exact .inr (fE.2 ⟨j,G,hG,hm⟩)
theorem WF.in7 (F:WF):∀ c∈F.f7,c∈F.a:=fun c hc=>fE.2 ⟨7,_,rfl,hc⟩
theorem WF.anj {f:List Nat} {c:Nat} (hc:c∈({F with f7:=f}:WF).a):c∈f∨c∈F.a:=by
 obtain⟨j,G,hG,hm⟩:=fE.1 hc
 have e:({F with f7:=f}:WF).l=F.l.set 7 f:=rfl
 rw[e] at hG
 rcases jV hG with⟨_,rfl⟩|⟨_,hG⟩
 ·exact .inl hm
 ·exact .inr (fE.2 ⟨j,G,hG,hm⟩)
theorem WF.in9 (F:WF):∀ c∈F.f9,c∈F.a:=fun c hc=>fE.2 ⟨9,_,rfl,hc⟩
theorem WF.ani {f:List Nat} {c:Nat} (hc:c∈({F with f9:=f}:WF).a):c∈f∨c∈F.a:=by
 obtain⟨j,G,hG,hm⟩:=fE.1 hc
 have e:({F with f9:=f}:WF).l=F.l.set 9 f:=rfl
 rw[e] at hG
 rcases jV hG with⟨_,rfl⟩|⟨_,hG⟩
 ·exact .inl hm
 ·exact .inr (fE.2 ⟨j,G,hG,hm⟩)
theorem WF.rF (F:WF):∀ c∈F.f10,c∈F.a:=fun c hc=>fE.2 ⟨10,_,rfl,hc⟩
theorem WF.YG {f:List Nat} {c:Nat} (hc:c∈({F with f10:=f}:WF).a):c∈f∨c∈F.a:=by
 obtain⟨j,G,hG,hm⟩:=fE.1 hc
 have e:({F with f10:=f}:WF).l=F.l.set 10 f:=rfl
 rw[e] at hG
 rcases jV hG with⟨_,rfl⟩|⟨_,hG⟩
 ·exact .inl hm
 ·exact .inr (fE.2 ⟨j,G,hG,hm⟩)
theorem PW.of {cs:List AV} {H:List Nat} (r:Cel.rep h x cs H) (o:Own n h H) (bk:Bk h b cs 0) (nb:n≤b) (hb:b ∉ H):∃ V F,cs=x.cv V∧F.a=H∧PW n h b x V F:=by
 have lt:=Cel.lt r
 obtain⟨v0,v1,v2,v3,v4,v5,v6,v7,v8,v9,v10,F0,F1,F2,F3,F4,F5,F6,F7,F8,F9,F10,rfl,rfl,r0,r1,r2,r3,r4,r5,r6,r7,r8,r9,r10⟩:=r
 have e:(WF.mk F0 F1 F2 F3 F4 F5 F6 F7 F8 F9 F10).a=F0++(F1++(F2++(F3++(F4++(F5++(F6++(F7++(F8++(F9++(F10)))))))))):=by simp[WF.a,WF.l]
 refine⟨⟨v0,v1,v2,v3,v4,v5,v6,v7,v8,v9,v10⟩,⟨F0,F1,F2,F3,F4,F5,F6,F7,F8,F9,F10⟩,rfl,e,bk,nb,iy.of ?_ ?_,r0,r1,r2,r3,r4,r5,r6,r7,r8,r9,r10⟩
 ·show bO n h (WF.mk F0 F1 F2 F3 F4 F5 F6 F7 F8 F9 F10).a
  rw[e];exact⟨o,lt⟩
 ·show b ∉ (WF.mk F0 F1 F2 F3 F4 F5 F6 F7 F8 F9 F10).a
  rw[e];exact hb
theorem PW.rep (w:PW n h b x V F):Cel.rep h x (x.cv V) F.a∧Own n h F.a:=
 ⟨⟨V.v0,V.v1,V.v2,V.v3,V.v4,V.v5,V.v6,V.v7,V.v8,V.v9,V.v10,F.f0,F.f1,F.f2,F.f3,F.f4,F.f5,F.f6,F.f7,F.f8,F.f9,F.f10,rfl,by simp[WF.a,WF.l],w.r0,w.r1,w.r2,w.r3,w.r4,w.r5,w.r6,w.r7,w.r8,w.r9,w.r10⟩,w.own.1⟩
structure Mv (m:Nat) (h:AH) (b:Nat) (F:WF) (h':AH) (F':WF):Prop where
 le:h.n≤h'.n
 get:∀ c,c < m→c≠b→c ∉ F.a→h'.get c=h.get c
 fr:∀ c∈F'.a,c∈F.a∨m≤c
theorem Mv.refl {m:Nat}:Mv m h b F h F:=⟨Nat.le_refl _,fun _ _ _ _=>rfl,fun c hc=>.inl hc⟩
theorem Mv.kp {F':WF} (k:Mv h.n h b F h' F'):Kp h h' (b::F.a):=⟨k.le,fun c hc hX=>k.get c hc (fun e=>hX (e▸List.mem_cons_self)) fun hm=>hX (List.mem_cons_of_mem _ hm)⟩
theorem Mv.of {m:Nat} {F':WF} (k:Kp h h' (b::F.a)) (hm:m≤h.n) (fr:∀ c∈F'.a,c∈F.a∨m≤c):Mv m h b F h' F':=
 ⟨k.1,fun c hc hb hF=>k.2 c (by omega) fun hX=>by
  rcases List.mem_cons.1 hX with e|e
  ·exact hb e
  ·exact hF e,fr⟩
theorem Mv.ofX {m:Nat} {X:List Nat} {F':WF} (k:Kp h h' X) (hX:∀ c∈X,c=b∨c∈F.a∨m≤c) (hm:m≤h.n) (fr:∀ c∈F'.a,c∈F.a∨m≤c):Mv m h b F h' F':=
 ⟨k.1,fun c hc hb hF=>k.2 c (by omega) fun hx=>by
  rcases hX c hx with e|e|e
  ·exact hb e
  ·exact hF e
  ·omega,fr⟩
theorem Mv.trans {m:Nat} {g:AH} {G F':WF} (k:Mv m g b G h F) (k':Mv m h b F h' F'):Mv m g b G h' F':=
 ⟨Nat.le_trans k.le k'.le,fun c hc hb hG=>(k'.get c hc hb fun hm=>by
  rcases k.fr c hm with q|q
  ·exact hG q
  ·omega).trans (k.get c hc hb hG),fun c hc=>by
  rcases k'.fr c hc with q|q
  ·exact k.fr c q
  ·exact .inr q⟩
theorem Mv.ext {m:Nat} {g:AH} {G:WF} (k:Mv m g b G h F) (hm:m≤h.n) (e:Ext h h'):Mv m g b G h' F:=
 ⟨Nat.le_trans k.le e.1,fun c hc hb hG=>(e.2 c (by omega)).trans (k.get c hc hb hG),k.fr⟩
theorem Mv.low {m:Nat} {F':WF} (k:Mv h.n h b F h' F') (hm:m≤h.n):Mv m h b F h' F':=⟨k.le,fun c hc=>k.get c (by omega),fun c hc=>(k.fr c hc).imp id fun q=>by omega⟩
theorem PW.YJ (w:PW n h b x V F) {x':Wld} {v:AV} {f:List Nat} (bk:Bk h' b (x'.cv {V with v1:=v}) 0) (k:Kp h h' (b::F.f1)) (r:au h' v x'.st f) (o:Own n h' f) (hb:b ∉ f) (fr:∀ c∈f,c∈F.f1∨c ∉ F.a) (e0:x'.c.rule.l=x.c.rule.l:=by rfl) (e2:x'.cache=x.cache:=by rfl) (e3:x'.w.near=x.w.near:=by rfl) (e4:x'.w.far=x.w.far:=by rfl) (e5:x'.w.rest=x.w.rest:=by rfl) (e6:x'.due=x.due:=by rfl) (e7:x'.queue=x.queue:=by rfl) (e8:x'.out=x.out:=by rfl) (e9:x'.tasks=x.tasks:=by rfl) (e10:x'.aF=x.aF:=by rfl):PW n h' b x' {V with v1:=v} {F with f1:=f}:=
 have dj:∀ (j:Nat) (G:List Nat),j≠1→F.l[j]? =some G→∀ c∈G,c ∉ b::F.f1:=fun j G hj hG c hc hX=>by
  rcases List.mem_cons.1 hX with e|e
  ·subst e;exact(w.sep.own j G hG).2 hc
  ·exact w.sep.dis j 1 G _ hj hG rfl c hc e
 ⟨bk,w.nb,w.sep.jG (i:=1) rfl k ⟨o,r.lt⟩ hb fr,by rw[e0];exact aL k w.r0 (dj 0 _ (by decide) rfl),r,by rw[e2];exact aL k w.r2 (dj 2 _ (by decide) rfl),by rw[e3];exact aL k w.r3 (dj 3 _ (by decide) rfl),by rw[e4];exact aL k w.r4 (dj 4 _ (by decide) rfl),by rw[e5];exact aL k w.r5 (dj 5 _ (by decide) rfl),by rw[e6];exact aL k w.r6 (dj 6 _ (by decide) rfl),by rw[e7];exact aL k w.r7 (dj 7 _ (by decide) rfl),by rw[e8];exact aL k w.r8 (dj 8 _ (by decide) rfl),by rw[e9];exact aL k w.r9 (dj 9 _ (by decide) rfl),by rw[e10];exact aL k w.r10 (dj 10 _ (by decide) rfl)⟩
theorem PW.amA (w:PW n h b x V F) {x':Wld} {v:AV} {f:List Nat} (bk:Bk h' b (x'.cv {V with v2:=v}) 0) (k:Kp h h' (b::F.f2)) (r:au h' v x'.cache f) (o:Own n h' f) (hb:b ∉ f) (fr:∀ c∈f,c∈F.f2∨c ∉ F.a) (e0:x'.c.rule.l=x.c.rule.l:=by rfl) (e1:x'.st=x.st:=by rfl) (e3:x'.w.near=x.w.near:=by rfl) (e4:x'.w.far=x.w.far:=by rfl) (e5:x'.w.rest=x.w.rest:=by rfl) (e6:x'.due=x.due:=by rfl) (e7:x'.queue=x.queue:=by rfl) (e8:x'.out=x.out:=by rfl) (e9:x'.tasks=x.tasks:=by rfl) (e10:x'.aF=x.aF:=by rfl):PW n h' b x' {V with v2:=v} {F with f2:=f}:=
 have dj:∀ (j:Nat) (G:List Nat),j≠2→F.l[j]? =some G→∀ c∈G,c ∉ b::F.f2:=fun j G hj hG c hc hX=>by
  rcases List.mem_cons.1 hX with e|e
  ·subst e;exact(w.sep.own j G hG).2 hc
  ·exact w.sep.dis j 2 G _ hj hG rfl c hc e
 ⟨bk,w.nb,w.sep.jG (i:=2) rfl k ⟨o,r.lt⟩ hb fr,by rw[e0];exact aL k w.r0 (dj 0 _ (by decide) rfl),by rw[e1];exact aL k w.r1 (dj 1 _ (by decide) rfl),r,by rw[e3];exact aL k w.r3 (dj 3 _ (by decide) rfl),by rw[e4];exact aL k w.r4 (dj 4 _ (by decide) rfl),by rw[e5];exact aL k w.r5 (dj 5 _ (by decide) rfl),by rw[e6];exact aL k w.r6 (dj 6 _ (by decide) rfl),by rw[e7];exact aL k w.r7 (dj 7 _ (by decide) rfl),by rw[e8];exact aL k w.r8 (dj 8 _ (by decide) rfl),by rw[e9];exact aL k w.r9 (dj 9 _ (by decide) rfl),by rw[e10];exact aL k w.r10 (dj 10 _ (by decide) rfl)⟩
theorem PW.YI (w:PW n h b x V F) {x':Wld} {v:AV} {f:List Nat} (bk:Bk h' b (x'.cv {V with v6:=v}) 0) (k:Kp h h' (b::F.f6)) (r:au h' v x'.due f) (o:Own n h' f) (hb:b ∉ f) (fr:∀ c∈f,c∈F.f6∨c ∉ F.a) (e0:x'.c.rule.l=x.c.rule.l:=by rfl) (e1:x'.st=x.st:=by rfl) (e2:x'.cache=x.cache:=by rfl) (e3:x'.w.near=x.w.near:=by rfl) (e4:x'.w.far=x.w.far:=by rfl) (e5:x'.w.rest=x.w.rest:=by rfl) (e7:x'.queue=x.queue:=by rfl) (e8:x'.out=x.out:=by rfl) (e9:x'.tasks=x.tasks:=by rfl) (e10:x'.aF=x.aF:=by rfl):PW n h' b x' {V with v6:=v} {F with f6:=f}:=
 have dj:∀ (j:Nat) (G:List Nat),j≠6→F.l[j]? =some G→∀ c∈G,c ∉ b::F.f6:=fun j G hj hG c hc hX=>by
  rcases List.mem_cons.1 hX with e|e
  ·subst e;exact(w.sep.own j G hG).2 hc
  ·exact w.sep.dis j 6 G _ hj hG rfl c hc e
 ⟨bk,w.nb,w.sep.jG (i:=6) rfl k ⟨o,r.lt⟩ hb fr,by rw[e0];exact aL k w.r0 (dj 0 _ (by decide) rfl),by rw[e1];exact aL k w.r1 (dj 1 _ (by decide) rfl),by rw[e2];exact aL k w.r2 (dj 2 _ (by decide) rfl),by rw[e3];exact aL k w.r3 (dj 3 _ (by decide) rfl),by rw[e4];exact aL k w.r4 (dj 4 _ (by decide) rfl),by rw[e5];exact aL k w.r5 (dj 5 _ (by decide) rfl),r,by rw[e7];exact aL k w.r7 (dj 7 _ (by decide) rfl),by rw[e8];exact aL k w.r8 (dj 8 _ (by decide) rfl),by rw[e9];exact aL k w.r9 (dj 9 _ (by decide) rfl),by rw[e10];exact aL k w.r10 (dj 10 _ (by decide) rfl)⟩
theorem PW.amy (w:PW n h b x V F) {x':Wld} {v:AV} {f:List Nat} (bk:Bk h' b (x'.cv {V with v7:=v}) 0) (k:Kp h h' (b::F.f7)) (r:au h' v x'.queue f) (o:Own n h' f) (hb:b ∉ f) (fr:∀ c∈f,c∈F.f7∨c ∉ F.a) (e0:x'.c.rule.l=x.c.rule.l:=by rfl) (e1:x'.st=x.st:=by rfl) (e2:x'.cache=x.cache:=by rfl) (e3:x'.w.near=x.w.near:=by rfl) (e4:x'.w.far=x.w.far:=by rfl) (e5:x'.w.rest=x.w.rest:=by rfl) (e6:x'.due=x.due:=by rfl) (e8:x'.out=x.out:=by rfl) (e9:x'.tasks=x.tasks:=by rfl) (e10:x'.aF=x.aF:=by rfl):PW n h' b x' {V with v7:=v} {F with f7:=f}:=
 have dj:∀ (j:Nat) (G:List Nat),j≠7→F.l[j]? =some G→∀ c∈G,c ∉ b::F.f7:=fun j G hj hG c hc hX=>by
  rcases List.mem_cons.1 hX with e|e
  ·subst e;exact(w.sep.own j G hG).2 hc
  ·exact w.sep.dis j 7 G _ hj hG rfl c hc e
 ⟨bk,w.nb,w.sep.jG (i:=7) rfl k ⟨o,r.lt⟩ hb fr,by rw[e0];exact aL k w.r0 (dj 0 _ (by decide) rfl),by rw[e1];exact aL k w.r1 (dj 1 _ (by decide) rfl),by rw[e2];exact aL k w.r2 (dj 2 _ (by decide) rfl),by rw[e3];exact aL k w.r3 (dj 3 _ (by decide) rfl),by rw[e4];exact aL k w.r4 (dj 4 _ (by decide) rfl),by rw[e5];exact aL k w.r5 (dj 5 _ (by decide) rfl),by rw[e6];exact aL k w.r6 (dj 6 _ (by decide) rfl),r,by rw[e8];exact aL k w.r8 (dj 8 _ (by decide) rfl),by rw[e9];exact aL k w.r9 (dj 9 _ (by decide) rfl),by rw[e10];exact aL k w.r10 (dj 10 _ (by decide) rfl)⟩
theorem PW.amx (w:PW n h b x V F) {x':Wld} {v:AV} {f:List Nat} (bk:Bk h' b (x'.cv {V with v9:=v}) 0) (k:Kp h h' (b::F.f9)) (r:au h' v x'.tasks f) (o:Own n h' f) (hb:b ∉ f) (fr:∀ c∈f,c∈F.f9∨c ∉ F.a) (e0:x'.c.rule.l=x.c.rule.l:=by rfl) (e1:x'.st=x.st:=by rfl) (e2:x'.cache=x.cache:=by rfl) (e3:x'.w.near=x.w.near:=by rfl) (e4:x'.w.far=x.w.far:=by rfl) (e5:x'.w.rest=x.w.rest:=by rfl) (e6:x'.due=x.due:=by rfl) (e7:x'.queue=x.queue:=by rfl) (e8:x'.out=x.out:=by rfl) (e10:x'.aF=x.aF:=by rfl):PW n h' b x' {V with v9:=v} {F with f9:=f}:=
 have dj:∀ (j:Nat) (G:List Nat),j≠9→F.l[j]? =some G→∀ c∈G,c ∉ b::F.f9:=fun j G hj hG c hc hX=>by
  rcases List.mem_cons.1 hX with e|e
  ·subst e;exact(w.sep.own j G hG).2 hc
  ·exact w.sep.dis j 9 G _ hj hG rfl c hc e
 ⟨bk,w.nb,w.sep.jG (i:=9) rfl k ⟨o,r.lt⟩ hb fr,by rw[e0];exact aL k w.r0 (dj 0 _ (by decide) rfl),by rw[e1];exact aL k w.r1 (dj 1 _ (by decide) rfl),by rw[e2];exact aL k w.r2 (dj 2 _ (by decide) rfl),by rw[e3];exact aL k w.r3 (dj 3 _ (by decide) rfl),by rw[e4];exact aL k w.r4 (dj 4 _ (by decide) rfl),by rw[e5];exact aL k w.r5 (dj 5 _ (by decide) rfl),by rw[e6];exact aL k w.r6 (dj 6 _ (by decide) rfl),by rw[e7];exact aL k w.r7 (dj 7 _ (by decide) rfl),by rw[e8];exact aL k w.r8 (dj 8 _ (by decide) rfl),r,by rw[e10];exact aL k w.r10 (dj 10 _ (by decide) rfl)⟩
theorem PW.Yn (w:PW n h b x V F) {x':Wld} {v:AV} {f:List Nat} (bk:Bk h' b (x'.cv {V with v10:=v}) 0) (k:Kp h h' (b::F.f10)) (r:au h' v x'.aF f) (o:Own n h' f) (hb:b ∉ f) (fr:∀ c∈f,c∈F.f10∨c ∉ F.a) (e0:x'.c.rule.l=x.c.rule.l:=by rfl) (e1:x'.st=x.st:=by rfl) (e2:x'.cache=x.cache:=by rfl) (e3:x'.w.near=x.w.near:=by rfl) (e4:x'.w.far=x.w.far:=by rfl) (e5:x'.w.rest=x.w.rest:=by rfl) (e6:x'.due=x.due:=by rfl) (e7:x'.queue=x.queue:=by rfl) (e8:x'.out=x.out:=by rfl) (e9:x'.tasks=x.tasks:=by rfl):PW n h' b x' {V with v10:=v} {F with f10:=f}:=
 have dj:∀ (j:Nat) (G:List Nat),j≠10→F.l[j]? =some G→∀ c∈G,c ∉ b::F.f10:=fun j G hj hG c hc hX=>by
  rcases List.mem_cons.1 hX with e|e
  ·subst e;exact(w.sep.own j G hG).2 hc
  ·exact w.sep.dis j 10 G _ hj hG rfl c hc e
 ⟨bk,w.nb,w.sep.jG (i:=10) rfl k ⟨o,r.lt⟩ hb fr,by rw[e0];exact aL k w.r0 (dj 0 _ (by decide) rfl),by rw[e1];exact aL k w.r1 (dj 1 _ (by decide) rfl),by rw[e2];exact aL k w.r2 (dj 2 _ (by decide) rfl),by rw[e3];exact aL k w.r3 (dj 3 _ (by decide) rfl),by rw[e4];exact aL k w.r4 (dj 4 _ (by decide) rfl),by rw[e5];exact aL k w.r5 (dj 5 _ (by decide) rfl),by rw[e6];exact aL k w.r6 (dj 6 _ (by decide) rfl),by rw[e7];exact aL k w.r7 (dj 7 _ (by decide) rfl),by rw[e8];exact aL k w.r8 (dj 8 _ (by decide) rfl),by rw[e9];exact aL k w.r9 (dj 9 _ (by decide) rfl),r⟩
theorem PW.fA (w:PW n h b x V F) {x':Wld} {v3 v4 v5:AV} {f3 f4 f5:List Nat} (bk:Bk h' b (x'.cv {V with v3:=v3,v4:=v4,v5:=v5}) 0) (k:Kp h h' [b]) (r3:au h' v3 x'.w.near f3) (r4:au h' v4 x'.w.far f4) (r5:au h' v5 x'.w.rest f5) (o:Own n h' (f3++(f4++f5))) (hb:b ∉ f3++(f4++f5)) (fr:∀ c∈f3++(f4++f5),c ∉ F.a) (e0:x'.c.rule.l=x.c.rule.l:=by rfl) (e1:x'.st=x.st:=by rfl) (e2:x'.cache=x.cache:=by rfl) (e6:x'.due=x.due:=by rfl) (e7:x'.queue=x.queue:=by rfl) (e8:x'.out=x.out:=by rfl) (e9:x'.tasks=x.tasks:=by rfl) (e10:x'.aF=x.aF:=by rfl):PW n h' b x' {V with v3:=v3,v4:=v4,v5:=v5} {F with f3:=f3,f4:=f4,f5:=f5}:=by
 have o3:=dA o
 have o4:=dA (bD o)
 have o5:=bD (bD o)
 have d3:=mZ o
 have d4:=mZ (bD o)
 have m3:∀ c∈f3,c∈f3++(f4++f5):=fun c hc=>List.mem_append_left _ hc
 have m4:∀ c∈f4,c∈f3++(f4++f5):=fun c hc=>List.mem_append_right _ (List.mem_append_left _ hc)
 have m5:∀ c∈f5,c∈f3++(f4++f5):=fun c hc=>List.mem_append_right _ (List.mem_append_right _ hc)
 have s3:=w.sep.jG (i:=3) (h':=h') rfl (k.mono fun c hc=>by rw[List.mem_singleton.1 hc];exact List.mem_cons_self) ⟨o3,r3.lt⟩ (fun hm=>hb (m3 _ hm)) fun c hc=>.inr (fr c (m3 c hc))
 have s4:=s3.jG (i:=4) (h':=h') rfl (Kp.refl _ _) ⟨o4,r4.lt⟩ (fun hm=>hb (m4 _ hm)) fun c hc=>.inr fun hm=>by
  rcases WF.Ns (F:=F) (f:=f3) hm with q|q
  ·exact d3 c q (List.mem_append_left _ hc)
  ·exact fr c (m4 c hc) q
 have s5:=s4.jG (i:=5) (h':=h') rfl (Kp.refl _ _) ⟨o5,r5.lt⟩ (fun hm=>hb (m5 _ hm)) fun c hc=>.inr fun hm=>by
  rcases WF.Y8 (F:={F with f3:=f3}) (f:=f4) hm with q|q
  ·exact d4 c q hc
  rcases WF.Ns (F:=F) (f:=f3) q with q|q
  ·exact d3 c q (List.mem_append_right _ hc)
  ·exact fr c (m5 c hc) q
 exact⟨bk,w.nb,s5,by rw[e0];exact aL k w.r0 fun c hc hX=>w.n0 (List.mem_singleton.1 hX▸hc),by rw[e1];exact aL k w.r1 fun c hc hX=>w.n1 (List.mem_singleton.1 hX▸hc),by rw[e2];exact aL k w.r2 fun c hc hX=>w.n2 (List.mem_singleton.1 hX▸hc),r3,r4,r5,by rw[e6];exact aL k w.r6 fun c hc hX=>w.n6 (List.mem_singleton.1 hX▸hc),by rw[e7];exact aL k w.r7 fun c hc hX=>w.n7 (List.mem_singleton.1 hX▸hc),by rw[e8];exact aL k w.r8 fun c hc hX=>w.n8 (List.mem_singleton.1 hX▸hc),by rw[e9];exact aL k w.r9 fun c hc hX=>w.n9 (List.mem_singleton.1 hX▸hc),by rw[e10];exact aL k w.r10 fun c hc hX=>w.n10 (List.mem_singleton.1 hX▸hc)⟩
end
section
variable{n b i:Nat} {h h':AH} {x:Wld} {V:WV} {F:WF} {P:Program} {Q:Nat→List AV→AH→Prop}
theorem PW.anV (w:PW n h b x V F) {y':aQ} {E':List AV} {G R:List Nat} {bb o:Nat} (el:Elt aQ n h' bb o E' V.v1 x.st i R) (re:Cel.rep h' y' E' G) (ow:Own n h' G) (hd:∀ c∈G,c ∉ R) (hR:∀ c∈R,c∈F.f1) (hG:∀ c∈G,c≠b∧(c∈F.f1∨c ∉ F.a)) (k:Kp h h' F.f1):∃ F',PW n h' b {x with st:=x.st.set i y'} V F'∧(∀ c∈F'.a,c∈F.a∨c∈G)∧Kp h h' (b::F.a):=by
 obtain⟨f,q,o',m⟩:=el.done re ow hd
 refine⟨{F with f1:=f},w.YJ (x':={x with st:=x.st.set i y'}) (v:=V.v1) (bF k w.bk w.n1) (k.mono fun c hc=>List.mem_cons_of_mem _ hc) q o' (fun hm=>?_) (fun c hc=>?_),fun c hc=>?_,k.mono fun c hc=>List.mem_cons_of_mem _ (F.in1 c hc)⟩
 ·rcases m b hm with q1|q1
  ·exact w.n1 (hR b q1)
  ·exact(hG b q1).1 rfl
 ·rcases m c hc with q1|q1
  ·exact .inl (hR c q1)
  ·exact(hG c q1).2
 ·rcases WF.set1 hc with q1|q1
  ·exact(m c q1).imp (fun q2=>F.in1 c (hR c q2)) id
  ·exact .inl q1
theorem PW.IX (w:PW n h b x V F) {y':Task} {E':List AV} {G R:List Nat} {bb o:Nat} (el:Elt Task n h' bb o E' V.v9 x.tasks i R) (re:Cel.rep h' y' E' G) (ow:Own n h' G) (hd:∀ c∈G,c ∉ R) (hR:∀ c∈R,c∈F.f9) (hG:∀ c∈G,c≠b∧(c∈F.f9∨c ∉ F.a)) (k:Kp h h' F.f9):∃ F',PW n h' b {x with tasks:=x.tasks.set i y'} V F'∧(∀ c∈F'.a,c∈F.a∨c∈G)∧Kp h h' (b::F.a):=by
 obtain⟨f,q,o',m⟩:=el.done re ow hd
 refine⟨{F with f9:=f},w.amx (x':={x with tasks:=x.tasks.set i y'}) (v:=V.v9) (bF k w.bk w.n9) (k.mono fun c hc=>List.mem_cons_of_mem _ hc) q o' (fun hm=>?_) (fun c hc=>?_),fun c hc=>?_,k.mono fun c hc=>List.mem_cons_of_mem _ (F.in9 c hc)⟩
 ·rcases m b hm with q1|q1
  ·exact w.n9 (hR b q1)
  ·exact(hG b q1).1 rfl
 ·rcases m c hc with q1|q1
  ·exact .inl (hR c q1)
  ·exact(hG c q1).2
 ·rcases WF.ani hc with q1|q1
  ·exact(m c q1).imp (fun q2=>F.in9 c (hR c q2)) id
  ·exact .inl q1
theorem PW.am0 (w:PW n h b x V F) {y':bI} {E':List AV} {G R:List Nat} {bb o:Nat} (el:Elt bI n h' bb o E' V.v10 x.aF i R) (re:Cel.rep h' y' E' G) (ow:Own n h' G) (hd:∀ c∈G,c ∉ R) (hR:∀ c∈R,c∈F.f10) (hG:∀ c∈G,c≠b∧(c∈F.f10∨c ∉ F.a)) (k:Kp h h' F.f10):∃ F',PW n h' b {x with aF:=x.aF.set i y'} V F'∧(∀ c∈F'.a,c∈F.a∨c∈G)∧Kp h h' (b::F.a):=by
 obtain⟨f,q,o',m⟩:=el.done re ow hd
 refine⟨{F with f10:=f},w.Yn (x':={x with aF:=x.aF.set i y'}) (v:=V.v10) (bF k w.bk w.n10) (k.mono fun c hc=>List.mem_cons_of_mem _ hc) q o' (fun hm=>?_) (fun c hc=>?_),fun c hc=>?_,k.mono fun c hc=>List.mem_cons_of_mem _ (F.rF c hc)⟩
 ·rcases m b hm with q1|q1
  ·exact w.n10 (hR b q1)
  ·exact(hG b q1).1 rfl
 ·rcases m c hc with q1|q1
  ·exact .inl (hR c q1)
  ·exact(hG c q1).2
 ·rcases WF.YG hc with q1|q1
  ·exact(m c q1).imp (fun q2=>F.rF c (hR c q2)) id
  ·exact .inl q1
theorem PW.I4 (w:PW n h b x V F) {a:Itm} {cs:List AV} {G:List Nat} {bytes:Nat} (ra:Cel.rep h a cs G) (oa:Own n h G) (hG:∀ c∈G,c≠b∧c ∉ F.a) (hn:n≤h.n) (hs:(x.queue.length+1) * bytes≤70368744177664) (hs2:x.queue.length+1 < 281474976710656) {k:AV→Prog}
  (hk:∀ v h1 f,Kp h h1 F.f7→Bk h1 b (x.cv V) 0→au h1 v (x.queue++[a]) f→(∀ h2,Bk h2 b (Wld.cv {x with queue:=x.queue++[a]} {V with v7:=v}) 0→Kp h1 h2 [b]→∃ F',PW n h2 b {x with queue:=x.queue++[a]} {V with v7:=v} F'∧(∀ c∈F'.a,c∈F.a∨c∈G∨h.n≤c)∧Kp h h2 (b::F.a))→(k v).awp P h1 Q):(Prog.op (.app 7 bytes V.v7 (.sl h.n 0 1)) k).awp P (h.push ⟨cs,7,0⟩) Q:=by
 refine iJ (n:=n) w.r7 ra (fK w.o7 oa (Nat.le_refl _) fun c hc hg=>(hG c hg).2 (F.in7 c hc)) hn rfl hs hs2 fun v h1 f ek k1 q1 o1 m1=>hk v h1 f k1 (bF k1 w.bk w.n7) q1 fun h2 b2 k2=>?_
 have lt:=w.own.2
 have hb1:=w.bk.1
 have hbf:b ∉ f:=fun hm=>by
  rcases m1 b hm with q|q|q
  ·exact w.n7 q
  ·exact(hG b q).1 rfl
  ·omega
 have kk:Kp h h2 (b::F.f7):=(k1.mono fun c hc=>List.mem_cons_of_mem _ hc).trans (k2.mono fun c hc=>by rw[List.mem_singleton.1 hc];exact List.mem_cons_self)
 refine⟨{F with f7:=f},w.amy (x':={x with queue:=x.queue++[a]}) b2 kk (aL k2 q1 fun c hc hX=>hbf (List.mem_singleton.1 hX▸hc)) (dD k2 ⟨o1,q1.lt⟩ fun c hc hX=>hbf (List.mem_singleton.1 hX▸hc)).1 hbf (fun c hc=>?_),fun c hc=>?_,kk.mono fun c hc=>?_⟩
 ·rcases m1 c hc with q|q|q
  ·exact .inl q
  ·exact .inr (hG c q).2
  ·exact .inr fun hm=>by have:=lt c hm;omega
 ·rcases WF.anj hc with q|q
  ·rcases m1 c q with q|q|q
   ·exact .inl (F.in7 c q)
   ·exact .inr (.inl q)
   ·exact .inr (.inr q)
  ·exact .inl q
 ·rcases List.mem_cons.1 hc with e|e
  ·subst e;exact List.mem_cons_self
  ·exact List.mem_cons_of_mem _ (F.in7 c e)
theorem PW.zn (w:PW n h b x V F) {a:bI} {cs:List AV} {G:List Nat} {bytes:Nat} (ra:Cel.rep h a cs G) (oa:Own n h G) (hG:∀ c∈G,c≠b∧c ∉ F.a) (hn:n≤h.n) (hs:(x.aF.length+1) * bytes≤70368744177664) (hs2:x.aF.length+1 < 281474976710656) {k:AV→Prog}
  (hk:∀ v h1 f,Kp h h1 F.f10→Bk h1 b (x.cv V) 0→au h1 v (x.aF++[a]) f→(∀ h2,Bk h2 b (Wld.cv {x with aF:=x.aF++[a]} {V with v10:=v}) 0→Kp h1 h2 [b]→∃ F',PW n h2 b {x with aF:=x.aF++[a]} {V with v10:=v} F'∧(∀ c∈F'.a,c∈F.a∨c∈G∨h.n≤c)∧Kp h h2 (b::F.a))→(k v).awp P h1 Q):(Prog.op (.app 20 bytes V.v10 (.sl h.n 0 1)) k).awp P (h.push ⟨cs,20,0⟩) Q:=by
 refine iJ (n:=n) w.r10 ra (fK w.o10 oa (Nat.le_refl _) fun c hc hg=>(hG c hg).2 (F.rF c hc)) hn rfl hs hs2 fun v h1 f ek k1 q1 o1 m1=>hk v h1 f k1 (bF k1 w.bk w.n10) q1 fun h2 b2 k2=>?_
 have lt:=w.own.2
 have hb1:=w.bk.1
 have hbf:b ∉ f:=fun hm=>by
  rcases m1 b hm with q|q|q
  ·exact w.n10 q
  ·exact(hG b q).1 rfl
  ·omega
 have kk:Kp h h2 (b::F.f10):=(k1.mono fun c hc=>List.mem_cons_of_mem _ hc).trans (k2.mono fun c hc=>by rw[List.mem_singleton.1 hc];exact List.mem_cons_self)
 refine⟨{F with f10:=f},w.Yn (x':={x with aF:=x.aF++[a]}) b2 kk (aL k2 q1 fun c hc hX=>hbf (List.mem_singleton.1 hX▸hc)) (dD k2 ⟨o1,q1.lt⟩ fun c hc hX=>hbf (List.mem_singleton.1 hX▸hc)).1 hbf (fun c hc=>?_),fun c hc=>?_,kk.mono fun c hc=>?_⟩
 ·rcases m1 c hc with q|q|q
  ·exact .inl q
  ·exact .inr (hG c q).2
  ·exact .inr fun hm=>by have:=lt c hm;omega
 ·rcases WF.YG hc with q|q
  ·rcases m1 c q with q|q|q
   ·exact .inl (F.rF c q)
   ·exact .inr (.inl q)
   ·exact .inr (.inr q)
  ·exact .inl q
 ·rcases List.mem_cons.1 hc with e|e
  ·subst e;exact List.mem_cons_self
  ·exact List.mem_cons_of_mem _ (F.rF c e)
end
section
variable{α:Type} [Flat α] {P:Program} {h:AH} {Q:Nat→List AV→AH→Prop} {k:AV→Prog}
theorem am3 {n es bytes:Nat} {x y:AV} {xs ys:List α} {Fx Fy:List Nat} (rx:au h x xs Fx) (ry:au h y ys Fy) (o:Own n h Fx) (hn:n≤h.n) (hw:es=Cel.w α) (hb:(xs.length+ys.length) * bytes≤70368744177664) (hs:xs.length+ys.length < 281474976710656)
  (hk:∀ v h' F',Kp h h' Fx→au h' v (xs++ys) F'→Own n h' F'→(∀ c∈F',c∈Fx∨h.n≤c)→(k v).awp P h' Q):(Prog.op (.app es bytes x y) k).awp P h Q:=by
 have ht:Fy.tail=[]:=by rcases ry.flat with⟨_,_,rfl⟩|⟨b,_,_,_,rfl,_⟩<;>rfl
 refine vW rx ry (by rw[ht,List.append_nil];exact o) hn hw hb hs fun v h' F' kp r' o' m=>hk v h' F' kp r' o' fun c hc=>?_
 rcases m c hc with q|q|q
 ·exact .inl q
 ·rw[ht] at q;cases q
 ·exact .inr q
end
theorem YA {P:Program} {h:AH} {Q:Nat→List AV→AH→Prop} {p:Prog} (R:AH→Prop) (r:R h) (k:∀ h2,R h2→p.awp P h2 Q):p.awp P h Q:=k h r
def kX (n m:Nat) (h:AH) (b:Nat) (F:WF) (y:Wld) (h':AH):Prop:=∃ V' F',PW n h' b y V' F'∧Mv m h b F h' F'
def nu (h:AH) (y:Wld) (ok:Bool):AV→AH→Prop:=fun u h'=>Ext h h'∧∃ cs F,u= .tup [.agg cs,.bool ok]∧Cel.rep h' y cs F∧Own h.n h' F
end Go.Ab
end
section
namespace Go.Proofs.YtkdjapahgmflbaaGreat
open Go Go.Ab Go.RowKit
section
variable{P:Program} {f:FuncId} {h H:AH} {x y:Wld} {cs:List AV} {F:List Nat} {Q:Nat→List AV→AH→Prop}
theorem Mj {a c:List AV} (hl:c.length=a.length):SP a 0 c c:=⟨by omega,by unfold splice;rw[hl];simp⟩
theorem prolog (hc:dO Wld P f x) (r:Cel.rep h x cs F) {K:AV→AV→AV→Prog} (hk:∀ (H:AH) (B:Nat) (V:WV) (G:WF),Ext h H→H.n=B+1→h.n+1+1≤B→Bk H h.n cs 0→Bk H (h.n+1) [AV.int .i64 0,AV.int .i64 0,AV.int .i64 0,AV.int .i64 0,AV.int .i64 0,AV.int .i64 0,AV.int .i64 0,AV.int .i64 0,AV.int .i64 0,AV.str ⟨#[]⟩,AV.str ⟨#[]⟩,AV.aC,AV.int .i64 0,AV.bool false,AV.aC,AV.int .i64 0,AV.int .i64 0,AV.int .i64 0,AV.int .i64 0,AV.int .i64 0,AV.aC,AV.int .i64 0,AV.int .i64 0,AV.aC,AV.aC,AV.aC,AV.aC,AV.aC,AV.aC,AV.aC,AV.aC,AV.int .i64 0] 0→PW (h.n+1+1) H B x V G→(K (.ptr h.n 0) (.ptr (h.n+1) 0) (.ptr B 0)).awp P H Q):
  (Prog.op (.box (.agg cs)) fun v1=>.op (.alloc [AV.int .i64 0,AV.int .i64 0,AV.int .i64 0,AV.int .i64 0,AV.int .i64 0,AV.int .i64 0,AV.int .i64 0,AV.int .i64 0,AV.int .i64 0,AV.str ⟨#[]⟩,AV.str ⟨#[]⟩,AV.aC,AV.int .i64 0,AV.bool false,AV.aC,AV.int .i64 0,AV.int .i64 0,AV.int .i64 0,AV.int .i64 0,AV.int .i64 0,AV.aC,AV.int .i64 0,AV.int .i64 0,AV.aC,AV.aC,AV.aC,AV.aC,AV.aC,AV.aC,AV.aC,AV.aC,AV.int .i64 0]) fun v2=>.op (.ldn 32 v1) fun v3=>.op (.call f [v3]) fun v4=>.op (.alloc [AV.int .i64 0,AV.int .i64 0,AV.int .i64 0,AV.int .i64 0,AV.int .i64 0,AV.int .i64 0,AV.int .i64 0,AV.int .i64 0,AV.int .i64 0,AV.str ⟨#[]⟩,AV.str ⟨#[]⟩,AV.aC,AV.int .i64 0,AV.bool false,AV.aC,AV.int .i64 0,AV.int .i64 0,AV.int .i64 0,AV.int .i64 0,AV.int .i64 0,AV.aC,AV.int .i64 0,AV.int .i64 0,AV.aC,AV.aC,AV.aC,AV.aC,AV.aC,AV.aC,AV.aC,AV.aC,AV.int .i64 0]) fun v5=>.op (.st 32 v5 v4) fun _=>K v1 v2 v5).awp P h Q:=by
 have hl:cs.length=32:=Cel.len r
 refine mX rfl ?_
 refine jD ?_
 refine tT (jC fD) hl (by decide) ?_
 have e0:Ext h ((h.push ⟨cs,0,0⟩).push ⟨[AV.int .i64 0,AV.int .i64 0,AV.int .i64 0,AV.int .i64 0,AV.int .i64 0,AV.int .i64 0,AV.int .i64 0,AV.int .i64 0,AV.int .i64 0,AV.str ⟨#[]⟩,AV.str ⟨#[]⟩,AV.aC,AV.int .i64 0,AV.bool false,AV.aC,AV.int .i64 0,AV.int .i64 0,AV.int .i64 0,AV.int .i64 0,AV.int .i64 0,AV.aC,AV.int .i64 0,AV.int .i64 0,AV.aC,AV.aC,AV.aC,AV.aC,AV.aC,AV.aC,AV.aC,AV.aC,AV.int .i64 0],0,0⟩):=((Ext.refl h).push _).push _
 refine aK (hc _ _ _ (iW r e0)) ?_
 rintro _ h1 ⟨e1,cs1,G,rfl,q1,o1⟩
 have n1:=e1.1
 simp only[aH] at n1 o1
 refine jD ?_
 have l1:cs1.length=32:=Cel.len q1
 refine yS l1 rfl ?_
 have lt:=Cel.lt q1
 have e2:Ext h1 (h1.push ⟨cs1,0,0⟩):=(Ext.refl _).push _
 obtain⟨V,W,rfl,eF,w⟩:=PW.of (n:=h.n+1+1) (iW q1 e2) (iN e2 ⟨o1,lt⟩).1 (fD (h:=h1) (cs:=cs1) (es:=0)) (by omega) (fun hm=>by have:=lt _ hm;omega)
 refine hk _ h1.n V W ((e0.trans e1).trans e2) rfl (by omega) (dX e2 (dX e1 (jC fD))) (dX e2 (dX e1 ?_)) w
 exact fD
theorem qX {b z:Nat} {V:WV} {G:WF} {z0:List AV} {ok:Bool} (w:PW (z+1) H b y V G) (bz:Bk H z z0 0) (e:Ext h H) (hn:h.n≤z):1=1∧∃ v,[AV.tup [.agg (y.cv V),.bool ok]]=[v]∧nu h y ok v (H.upd z ⟨y.cv V,0,0⟩):=by
 obtain⟨r,o⟩:=w.rep
 have lt:=w.own.2
 have hnz:z ∉ G.a:=fun hm=>by have:=(o.2 z hm).1;omega
 refine⟨rfl,_,rfl,e.upd hn _,_,G.a,rfl,?_,?_⟩
 ·exact BL fO r fun c hc hm=>hnz (List.mem_singleton.1 hm▸hc)
 ·exact(dN ⟨o,lt⟩ hnz).1.mono (by omega) fun _ _=>rfl
theorem amw {B z:Nat} {V:WV} {G:WF} {z0:List AV} {ok:Bool} {h2:AH} (w:PW (z+1) H B x V G) (bz:Bk H z z0 0) (hz:z0.length=32) (e:Ext h H) (hn:h.n≤z) (W:kX (z+1) H.n H B G y h2):
  (Prog.op (.ldn 32 (.ptr B 0)) fun u=>.op (.st 32 (.ptr z 0) u) fun _=>.fin [.cn 32 (.ptr z 0),.val (.bool ok)]).awp P h2 fun t vs h'=>t=1∧∃ v,vs=[v]∧nu h y ok v h':=by
 obtain⟨V2,F2,w2,mv⟩:=W
 have kp2:=mv.kp
 have hBo:∀ c∈B::G.a,z+1≤c:=fun c hc=>by
  rcases List.mem_cons.1 hc with q|q
  ·rw[q];exact w.nb
  ·exact(w.own.1.2 c q).1
 have bz2:=bF kp2 bz (fun hm=>by have:=hBo _ hm;omega)
 have e2:Ext h h2:=Kp.ext e kp2 fun c hc=>by have:=hBo c hc;omega
 have hl:(y.cv V2).length=32:=rfl
 refine tT w2.bk hl (by decide) ?_
 refine kU (xs:=y.cv V2) rfl hl (qQ bz2 (Mj (by rw[hl,hz]))) ?_
 have bz3:Bk (h2.upd z ⟨y.cv V2,0,0⟩) z (y.cv V2) 0:=fP bz2.1
 refine vO (II (cs:=y.cv V2) ⟨by rw[bz3.2];exact List.take_of_length_le (Nat.le_of_eq hl),by decide,hl,by simp[live,bz3.2]⟩) IG ?_
 exact qX w2 bz2 e2 hn
theorem YH {z:Nat} {z0:List AV} (hc:dO Wld P f x) (r:Cel.rep H x cs F) (bz:Bk H z z0 0) (hz:z0.length=32) (e:Ext h H) (hn:h.n≤z):
  (Prog.op (.call f [.agg cs]) fun c=>.op (.st 32 (.ptr z 0) c) fun _=>.fin [.cn 32 (.ptr z 0),.val (.bool false)]).awp P H fun t vs h'=>t=1∧∃ v,vs=[v]∧nu h x false v h':=by
 refine aK (hc _ _ _ r) ?_
 rintro _ h1 ⟨e1,cs1,G,rfl,q1,o1⟩
 have n1:=e1.1
 have l1:cs1.length=32:=Cel.len q1
 have lt:=Cel.lt q1
 have bz1:=dX e1 bz
 refine kU (xs:=cs1) rfl l1 (qQ bz1 (Mj (by rw[l1,hz]))) ?_
 have bz2:Bk (h1.upd z ⟨cs1,0,0⟩) z cs1 0:=fP bz1.1
 refine vO (II (cs:=cs1) ⟨by rw[bz2.2];exact List.take_of_length_le (by simp[l1]),by decide,l1,by simp[live,bz2.2]⟩) IG ?_
 have hnz:z ∉ G:=fun hm=>by have:=(o1.2 z hm).1;have:=bz.1;omega
 have hne:=e.1
 refine⟨rfl,_,rfl,(e.trans e1).upd hn _,_,G,rfl,?_,?_⟩
 ·exact BL fO q1 fun c hc hm=>hnz (List.mem_singleton.1 hm▸hc)
 ·exact(dN ⟨o1,lt⟩ hnz).1.mono (by omega) fun _ _=>rfl
end
end Go.Proofs.YtkdjapahgmflbaaGreat
end
