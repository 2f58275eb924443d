import Derived.Test.YtkdjapahgmflbaaGreatDW81
import Derived.Test.YtkdjapahgmflbaaGreatDW89
set_option linter.unusedSimpArgs false
set_option linter.unusedVariables false
set_option maxHeartbeats 2000000
namespace Go.Proofs.YtkdjapahgmflbaaGreat
open Go Go.Ab
attribute[local irreducible] cZ
theorem aaD {h:AH} {n b:Nat} {x:Wld} {V:WV} {F:WF} {o:Trail} {keep:Bool} {vo:AV} {Fo:List Nat} (w:PW n h b x V F) (ro:au h vo o.spans Fo) (hbo:b ∉ Fo) (hso:Sz.sz o≤67108864) (hs:x.st.length+szs x.st≤67108864) (hc:x.cache.length≤1048576):bN Tryz.prog zR [.ptr b 0,.agg (o.cs vo),.bool keep] h fun v h'=>v= .int .i64 (iX x o keep)∧uo n h.n h b F (mQ x o keep) V h':=by
 obtain⟨v0,v1,v2,v3,v4,v5,v6,v7,v8,v9,v10⟩:=V
 have s:=w.ws
 have bk:=bkE w
 have hb:=bk.1
 have r1:au h v1 x.st F.f1:=w.r1
 have r2:au h v2 x.cache F.f2:=w.r2
 have nb2:b ∉ F.f2:=w.n2
 refine PN _ _ _ ?_
 unfold Jp
 (repeat' first|refine vsw ?_|(with_reducible refine aW ?_)|fail)
 refine aK (OP (l:=x.st) (id:=o.id) hs ah) ?_
 rintro u1 h1 ⟨e1,f1,q1,o1⟩
 have n1:=e1.1;(try simp only[aH,aN] at n1)
 (repeat' first|refine vsw ?_|(with_reducible refine aW ?_)|(with_reducible refine vU ?_)|((with_reducible refine aA uS ?_);(refine aJ (JZ hso ah) ?_))|fail)
 refine s.MZ {x with st:=gN x.st o.id,used:=wr (x.used - jK o)} (ah:au _ _ (gN x.st o.id) f1) (bA:Own (h.n+1) _ f1) (by omega) fun x1 hx1 s1=>?_
 refine aK (PS (xs:=x.cache) (v:=⟨o.id,o.stamp,keep⟩) ah hc) ?_
 rintro _ h2 ⟨e2,u2,f2,rfl,q2,o2⟩
 have n2:=e2.1;(try simp only[aH,aN] at n2)
 (repeat' first|refine vsx ?_|(with_reducible refine aW ?_)|fail)
 refine s1.MX {x1 with cache:=(rem x.cache ⟨o.id,o.stamp,keep⟩ x.c.cache).1} (ah:au _ _ (rem x.cache ⟨o.id,o.stamp,keep⟩ x.c.cache).1 f2) (bA:Own h1.n _ f2) aO (fun x2 hx2 s2=>?_) iq (by rw[hx1];rfl)
 (repeat' first|refine vsw ?_|fail)
 rw[hx2,hx1] at s2
 exact⟨rfl,_,rfl,rfl,Ir s2 rfl rfl⟩
theorem Uf {h:AH} {n b:Nat} {x:Wld} {V:WV} {F:WF} {o:Trail} {keep:Bool} {vo:AV} {Fo:List Nat} (w:PW n h b x V F) (ro:au h vo o.spans Fo) (hbo:b ∉ Fo) (hso:Sz.sz o≤67108864) (hs:x.st.length+szs x.st≤67108864) (hc:x.cache.length≤1048576):bN Tryz.prog FN [.ptr b 0,.agg (o.cs vo),.bool keep] h fun v h'=>v= .int .i64 (iX x o keep)∧uo n h.n h b F (mQ x o keep) V h':=by
 obtain⟨v0,v1,v2,v3,v4,v5,v6,v7,v8,v9,v10⟩:=V
 have s:=w.ws
 have bk:=bkE w
 have hb:=bk.1
 have r1:au h v1 x.st F.f1:=w.r1
 have r2:au h v2 x.cache F.f2:=w.r2
 have nb2:b ∉ F.f2:=w.n2
 refine aiY _ _ _ ?_
 unfold UO
 (repeat' first|refine vsw ?_|(with_reducible refine aW ?_)|fail)
 refine aK (abu (l:=x.st) (id:=o.id) hs ah) ?_
 rintro u1 h1 ⟨e1,f1,q1,o1⟩
 have n1:=e1.1;(try simp only[aH,aN] at n1)
 (repeat' first|refine vsw ?_|(with_reducible refine aW ?_)|(with_reducible refine vU ?_)|((with_reducible refine aA xB ?_);(refine aJ (QT hso ah) ?_))|fail)
 refine s.MZ {x with st:=gN x.st o.id,used:=wr (x.used - jK o)} (ah:au _ _ (gN x.st o.id) f1) (bA:Own (h.n+1) _ f1) (by omega) fun x1 hx1 s1=>?_
 refine aK (acQ (xs:=x.cache) (v:=⟨o.id,o.stamp,keep⟩) ah hc) ?_
 rintro _ h2 ⟨e2,u2,f2,rfl,q2,o2⟩
 have n2:=e2.1;(try simp only[aH,aN] at n2)
 (repeat' first|refine vsx ?_|(with_reducible refine aW ?_)|fail)
 refine s1.MX {x1 with cache:=(rem x.cache ⟨o.id,o.stamp,keep⟩ x.c.cache).1} (ah:au _ _ (rem x.cache ⟨o.id,o.stamp,keep⟩ x.c.cache).1 f2) (bA:Own h1.n _ f2) aO (fun x2 hx2 s2=>?_) iq (by rw[hx1];rfl)
 (repeat' first|refine vsw ?_|fail)
 rw[hx2,hx1] at s2
 exact⟨rfl,_,rfl,rfl,Ir s2 rfl rfl⟩
end Go.Proofs.YtkdjapahgmflbaaGreat
