import Derived.Test.YtekfdoknfcedpaaGreatDW81
import Derived.Test.YtekfdoknfcedpaaGreatDW89
set_option linter.unusedSimpArgs false
set_option linter.unusedVariables false
set_option maxHeartbeats 2000000
namespace Go.Proofs.YtekfdoknfcedpaaGreat
open Go Go.Ab
attribute[local irreducible] dK
theorem aau {h:AH} {n b:Nat} {x:Wld} {V:WV} {F:WF} {o:Trail} {keep:Bool} {vo:AV} {Fo:List Nat} (w:PW n h b x V F) (ro:au h vo o.spans Fo) (hbo:b ∉ Fo) (hso:Sz.sz o≤67108864) (hs:x.st.length+szs x.st≤67108864) (hc:x.cache.length≤1048576):cZ Tryz.prog Hu [.ptr b 0,.agg (o.cs vo),.bool keep] h fun v h'=>v= .int .i64 (gU x o keep)∧vT n h.n h b F (jK x o keep) V h':=by
 obtain⟨v0,v1,v2,v3,v4,v5,v6,v7,v8,v9,v10⟩:=V
 have s:=w.ws
 have bk:Bk h b [AV.int .i64 x.c.bZ,AV.int .i64 x.c.wait,AV.int .i64 x.c.budget,AV.int .i64 x.c.cache,AV.int .i64 x.c.queue,AV.int .i64 x.c.rate,AV.int .i64 x.c.aW,AV.int .i64 x.c.rule.kind,AV.int .i64 x.c.rule.n,AV.str x.c.rule.key,AV.str x.c.rule.text,v0,AV.int .i64 x.time,AV.bool x.shut,v1,AV.int .i64 x.bH,AV.int .i64 x.b.rate,AV.int .i64 x.b.aW,AV.int .i64 x.b.tokens,AV.int .i64 x.b.at_,v2,AV.int .i64 x.used,AV.int .i64 x.w.now,v3,v4,v5,v6,v7,v8,v9,v10,AV.int .i64 x.next] 0:=w.bk
 have hb:=bk.1
 have r1:au h v1 x.st F.f1:=w.r1
 have r2:au h v2 x.cache F.f2:=w.r2
 have nb2:b ∉ F.f2:=w.n2
 refine ab3 _ _ _ ?_
 unfold MI
 (repeat' first|refine vsw ?_|(with_reducible refine aZ ?_)|fail)
 refine aT (abd (l:=x.st) (id:=o.id) hs ah) ?_
 rintro u1 h1 ⟨e1,f1,q1,o1⟩
 have n1:=e1.1;(try simp only[aO,aV] at n1)
 (repeat' first|refine vsw ?_|(with_reducible refine aZ ?_)|(with_reducible refine uZ ?_)|((with_reducible refine aB tL ?_);(refine aQ (Om hso ah) ?_))|fail)
 refine s.VJ {x with st:=eU x.st o.id,used:=wr (x.used - iq o)} (ah:au _ _ (eU x.st o.id) f1) (bJ:Own (h.n+1) _ f1) (by omega) fun x1 hx1 s1=>?_
 refine aT (ac4 (xs:=x.cache) (v:=⟨o.id,o.stamp,keep⟩) ah hc) ?_
 rintro _ h2 ⟨e2,u2,f2,rfl,q2,o2⟩
 have n2:=e2.1;(try simp only[aO,aV] at n2)
 (repeat' first|refine vsx ?_|(with_reducible refine aZ ?_)|fail)
 refine s1.VI {x1 with cache:=(rem x.cache ⟨o.id,o.stamp,keep⟩ x.c.cache).1} (ah:au _ _ (rem x.cache ⟨o.id,o.stamp,keep⟩ x.c.cache).1 f2) (bJ:Own h1.n _ f2) aP (fun x2 hx2 s2=>?_) gZ (by rw[hx1];rfl)
 (repeat' first|refine vsw ?_|fail)
 rw[hx2,hx1] at s2
 exact⟨rfl,_,rfl,rfl,FU s2 rfl rfl⟩
theorem ait {h:AH} {n b:Nat} {x:Wld} {V:WV} {F:WF} {o:Trail} {keep:Bool} {vo:AV} {Fo:List Nat} (w:PW n h b x V F) (ro:au h vo o.spans Fo) (hbo:b ∉ Fo) (hso:Sz.sz o≤67108864) (hs:x.st.length+szs x.st≤67108864) (hc:x.cache.length≤1048576):cZ Tryz.prog JB [.ptr b 0,.agg (o.cs vo),.bool keep] h fun v h'=>v= .int .i64 (gU x o keep)∧vT n h.n h b F (jK x o keep) V h':=by
 obtain⟨v0,v1,v2,v3,v4,v5,v6,v7,v8,v9,v10⟩:=V
 have s:=w.ws
 have bk:Bk h b [AV.int .i64 x.c.bZ,AV.int .i64 x.c.wait,AV.int .i64 x.c.budget,AV.int .i64 x.c.cache,AV.int .i64 x.c.queue,AV.int .i64 x.c.rate,AV.int .i64 x.c.aW,AV.int .i64 x.c.rule.kind,AV.int .i64 x.c.rule.n,AV.str x.c.rule.key,AV.str x.c.rule.text,v0,AV.int .i64 x.time,AV.bool x.shut,v1,AV.int .i64 x.bH,AV.int .i64 x.b.rate,AV.int .i64 x.b.aW,AV.int .i64 x.b.tokens,AV.int .i64 x.b.at_,v2,AV.int .i64 x.used,AV.int .i64 x.w.now,v3,v4,v5,v6,v7,v8,v9,v10,AV.int .i64 x.next] 0:=w.bk
 have hb:=bk.1
 have r1:au h v1 x.st F.f1:=w.r1
 have r2:au h v2 x.cache F.f2:=w.r2
 have nb2:b ∉ F.f2:=w.n2
 refine ai0 _ _ _ ?_
 unfold RN
 (repeat' first|refine vsw ?_|(with_reducible refine aZ ?_)|fail)
 refine aT (abF (l:=x.st) (id:=o.id) hs ah) ?_
 rintro u1 h1 ⟨e1,f1,q1,o1⟩
 have n1:=e1.1;(try simp only[aO,aV] at n1)
 (repeat' first|refine vsw ?_|(with_reducible refine aZ ?_)|(with_reducible refine uZ ?_)|((with_reducible refine aB tY ?_);(refine aQ (Oz hso ah) ?_))|fail)
 refine s.VJ {x with st:=eU x.st o.id,used:=wr (x.used - iq o)} (ah:au _ _ (eU x.st o.id) f1) (bJ:Own (h.n+1) _ f1) (by omega) fun x1 hx1 s1=>?_
 refine aT (adr (xs:=x.cache) (v:=⟨o.id,o.stamp,keep⟩) ah hc) ?_
 rintro _ h2 ⟨e2,u2,f2,rfl,q2,o2⟩
 have n2:=e2.1;(try simp only[aO,aV] at n2)
 (repeat' first|refine vsx ?_|(with_reducible refine aZ ?_)|fail)
 refine s1.VI {x1 with cache:=(rem x.cache ⟨o.id,o.stamp,keep⟩ x.c.cache).1} (ah:au _ _ (rem x.cache ⟨o.id,o.stamp,keep⟩ x.c.cache).1 f2) (bJ:Own h1.n _ f2) aP (fun x2 hx2 s2=>?_) gZ (by rw[hx1];rfl)
 (repeat' first|refine vsw ?_|fail)
 rw[hx2,hx1] at s2
 exact⟨rfl,_,rfl,rfl,FU s2 rfl rfl⟩
end Go.Proofs.YtekfdoknfcedpaaGreat
