import Derived.Test.YtkdjapahgmflbaaGreatDKW3
set_option linter.unusedSimpArgs false
set_option linter.unusedVariables false
set_option maxHeartbeats 8000000
namespace Go.Proofs.YtkdjapahgmflbaaGreat
open Go Go.Ab
section
abbrev abA (IB:AV) (v1:AV) (ams:List AV):Prog:=Ld 20 IB fun a=>Cl E8 [a] fun a=>.op (.una .not a) fun a=>Gf a false 17 IB fun b=>Gf a false 12 v1 fun c=>.gop a false (.bin 0 .geq b c) fun b=>Pk a (.bool true) b fun a=>Gf a false 18 IB fun b=>Gf a false 12 v1 fun c=>.gop a false (.bin 0 .geq b c) fun b=>Pk a (.bool true) b fun a=>Gf a false 19 IB fun b=>Gf a false 12 v1 fun c=>.gop a false (.bin 0 .geq b c) fun b=>Pk a (.bool true) b fun a=>.ite a (.fin [.val (.bool false)]) (Bn .add (g ams 0) (.int .i64 1) fun a=>.leaf 0 [a])
abbrev abz (v97:AV) (v1:AV) (uw:AV):Prog:=.gop v97 false (.fad 0 v1) fun a=>Gf v97 false 4 a fun a=>.gop v97 false (.bin 0 .gtr uw a) fun a=>Pk v97 (.bool true) a fun a=>Gf a false 29 v1 fun b=>.gop a false (.len 0 b) fun b=>.gop a false (.bin 0 .neq b (.int .i64 5)) fun b=>Pk a (.bool true) b fun a=>.ite a (.fin [.val (.bool false)]) (.loop [.int .i64 0] (fun a=>Lg 27 v1 fun b=>Ln 0 b fun b=>Bn .lss (g a 0) b fun b=>.ite b (Lg 27 v1 fun b=>Ix 7 b (g a 0) fun b=>Ld 7 b fun b=>Cl sN [b] fun b=>.op (.una .not b) fun b=>.ite b (.fin [.val (.bool false)]) (Bn .add (g a 0) (.int .i64 1) fun a=>.leaf 0 [a])) (.leaf 2 [g a 0])) fun a b=>aB a 1 (.leaf 1 b) (aB a 2 (.loop [.int .i64 0] (fun a=>Lg 28 v1 fun b=>Ln 0 b fun b=>Bn .lss (g a 0) b fun b=>.ite b (Lg 28 v1 fun b=>Ix 7 b (g a 0) fun b=>Ld 7 b fun b=>Cl sN [b] fun b=>.op (.una .not b) fun b=>.ite b (.fin [.val (.bool false)]) (Bn .add (g a 0) (.int .i64 1) fun a=>.leaf 0 [a])) (.leaf 4 [g a 0])) fun a b=>aB a 1 (.leaf 1 b) (aB a 4 (.loop [.int .i64 0] (fun a=>Lg 30 v1 fun b=>Ln 0 b fun b=>Bn .lss (g a 0) b fun b=>.ite b (Lg 30 v1 fun b=>Ix 20 b (g a 0) fun b=>Ld 20 b fun b=>.op (.alloc iV) fun c=>.op (.st 20 c b) fun _=>abA c v1 a) (.leaf 6 [g a 0])) fun a b=>aB a 1 (.leaf 1 b) (aB a 6 (Ld 32 v1 fun a=>Cl Dl [a] fun a=>.gop a true (.ldn 32 v1) fun b=>.gop a true (.call DL [b]) fun b=>Pk a b (.bool false) fun a=>.fin [.val a]) .bad)) .bad)) .bad))
abbrev aby (v77:AV) (v80:AV) (v1:AV):Prog:=.gop v77 false (.una .not v80) fun a=>Pk v77 (.bool true) a fun a=>.gop a false (.fad 22 v1) fun b=>Gf a false 0 b fun b=>.gop a false (.bin 0 .gtr b (.int .i64 100000)) fun b=>Pk a (.bool true) b fun a=>Gf a false 13 v1 fun b=>.gop a false (.mv b) fun b=>.gop b true (.fad 22 v1) fun c=>.gop b true (.ldn 4 c) fun c=>.gop b true (.call pX [c]) fun c=>.gop b true (.len 0 c) fun c=>.gop b true (.bin 0 .gtr c (.int .i64 0)) fun c=>.gop a false (.pick b c (.bool false)) fun b=>Pk a (.bool true) b fun a=>Gf a false 27 v1 fun b=>.gop a false (.len 0 b) fun b=>abz a v1 b
abbrev abx (v55:AV) (v57:AV) (v60:AV) (v1:AV):Prog:=.gop v55 false (.call En [v57,v60]) fun a=>.gop v55 false (.una .not a) fun a=>Pk v55 (.bool true) a fun a=>.gop a false (.fad 21 v1) fun b=>.gop a false (.ld1 b) fun c=>Gf a false 14 v1 fun d=>.gop a false (.call Dn [d]) fun d=>.kC a false (.ld1 b) c (.gop a false (.bin 0 .neq c d) fun b=>Pk a (.bool true) b fun a=>Gf a false 21 v1 fun b=>.gop a false (.fad 0 v1) fun c=>Gf a false 2 c fun c=>.gop a false (.bin 0 .gtr b c) fun b=>Pk a (.bool true) b fun a=>.gop a false (.fad 22 v1) fun b=>.gop a false (.ldn 4 b) fun b=>.gop a false (.call kZ [b]) fun b=>aby a b v1)
abbrev abw (v39:AV) (v40:AV) (v1:AV):Prog:=Gf v39 false 1 v40 fun a=>.gop v39 false (.fad 0 v1) fun b=>Gf v39 false 6 b fun b=>.gop v39 false (.bin 0 .neq a b) fun a=>Pk v39 (.bool true) a fun a=>.gop a false (.fad 16 v1) fun b=>Gf a false 3 b fun b=>.gop a false (.fad 22 v1) fun c=>Gf a false 0 c fun c=>.gop a false (.bin 0 .gtr b c) fun b=>Pk a (.bool true) b fun a=>Gf a false 20 v1 fun b=>.gop a false (.fad 0 v1) fun c=>Gf a false 3 c fun c=>abx a b c v1
abbrev abv (v18:AV) (v20:AV) (v1:AV):Prog:=.gop v18 false (.len 0 v20) fun a=>.gop v18 false (.fad 0 v1) fun b=>Gf v18 false 0 b fun b=>.gop v18 false (.bin 0 .neq a b) fun a=>Pk v18 (.bool true) a fun a=>.gop a false (.fad 16 v1) fun b=>.gop a false (.ldn 4 b) fun b=>.gop a false (.call pV [b]) fun b=>.gop a false (.una .not b) fun b=>Pk a (.bool true) b fun a=>.gop a false (.fad 16 v1) fun b=>Gf a false 0 b fun b=>.gop a false (.fad 0 v1) fun c=>Gf a false 5 c fun c=>.gop a false (.bin 0 .neq b c) fun b=>Pk a (.bool true) b fun a=>.gop a false (.fad 16 v1) fun b=>abw a b v1
def Rh (x0:AV):Prog:=.op (.box x0) fun a=>.op (.fad 0 a) fun b=>Ld 12 b fun b=>Cl E9 [b] fun b=>.op (.una .not b) fun b=>Gf b false 12 a fun c=>.gop b false (.bin 0 .lss c (.int .i64 0)) fun c=>Pk b (.bool true) c fun b=>Gf b false 31 a fun c=>.gop b false (.bin 0 .lss c (.int .i64 1)) fun c=>Pk b (.bool true) c fun b=>Gf b false 14 a fun c=>.gop b false (.call Dm [c]) fun c=>.gop b false (.una .not c) fun c=>Pk b (.bool true) c fun b=>Gf b false 14 a fun c=>abv b c a
theorem afa (x0:AV):CC Tryz.prog Af [x0] (Rh x0):=cc Tryz.func58 [1,3,4,5] (fun r=>if r=1 then[(0,[]),(1,[]),(2,[]),(3,[]),(4,[]),(5,[]),(6,[]),(7,[]),(8,[]),(9,[]),(10,[]),(11,[]),(12,[]),(13,[]),(14,[]),(15,[]),(16,[]),(17,[]),(18,[]),(19,[]),(20,[]),(21,[]),(22,[]),(23,[]),(24,[]),(25,[]),(26,[]),(27,[]),(28,[]),(29,[]),(30,[]),(31,[]),(32,[]),(33,[]),(34,[]),(35,[]),(36,[]),(37,[]),(38,[]),(39,[]),(40,[]),(41,[]),(42,[]),(43,[]),(44,[]),(45,[]),(46,[]),(47,[]),(48,[]),(49,[]),(50,[]),(51,[]),(52,[]),(53,[]),(54,[]),(55,[]),(56,[]),(57,[]),(58,[]),(59,[]),(60,[]),(61,[]),(62,[]),(63,[]),(64,[]),(65,[]),(66,[]),(67,[]),(68,[]),(69,[]),(70,[]),(71,[]),(72,[]),(73,[]),(74,[]),(75,[]),(76,[73]),(77,[]),(78,[]),(79,[]),(80,[]),(81,[]),(82,[]),(83,[]),(84,[]),(85,[]),(86,[]),(87,[]),(88,[]),(89,[]),(90,[]),(91,[]),(92,[]),(93,[]),(94,[]),(95,[]),(96,[]),(97,[]),(98,[]),(99,[]),(100,[]),(101,[]),(102,[]),(103,[]),(104,[]),(105,[]),(106,[]),(107,[]),(108,[]),(109,[]),(110,[]),(111,[]),(112,[]),(113,[]),(114,[]),(115,[]),(116,[]),(117,[]),(118,[]),(119,[]),(120,[]),(121,[]),(122,[]),(123,[]),(124,[])] else[])
end
def mO (x:Wld):Prop:=Ho x∧(x.tasks.length:Int)=5∧Xk x∧Yh x
theorem QH {h:AH} {x:Wld} {cs:List AV} {F:List Nat} (ok:Cel.ok x) (hs:Sz.sz x≤67108864) (r:Cel.rep h x cs F):
  aM Tryz.prog Af [.agg cs] h (.bool (bp (mO x))):=by
 have ok0:=ok
 have hs0:=hs
 obtain⟨v0,v1,v2,v3,v4,v5,v6,v7,v8,v9,v10,F0,F1,F2,F3,F4,F5,F6,F7,F8,F9,F10,rfl,rfl,r0,r1,r2,r3,r4,r5,r6,r7,r8,r9,r10⟩:=r
 obtain⟨wK,Bw,wF,Az,Cv,yx,Bv,Cu,BN,sZ,wh,vK,Bl,vT⟩:=ok
 have hs:Sz.sz x.c+(x.st.length+szs x.st)+(x.cache.length+szs x.cache)+Sz.sz x.w+(x.due.length+szs x.due)+(x.queue.length+szs x.queue)+(x.out.length+szs x.out)+(x.tasks.length+szs x.tasks)+(x.aF.length+szs x.aF)≤67108864:=hs
 have hcs:Sz.sz x.c=Sz.sz x.c.rule:=rfl
 have hl1:=r1.small
 have hl6:=r6.small
 have hl7:=r7.small
 have hl8:=r8.small
 have hl9:=r9.small
 have NM:=r10.small
 refine reader (afa _) (by simp only[old]) ?_
 unfold Rh
 (repeat' first|refine vs ?_|((with_reducible refine Yv x.shut ?_);generalize hsh:x.shut=bsh;cases bsh)|(refine br ?_ ?_<;>first|exact bx|intro _)|((with_reducible refine aA E9 ?_);(refine aS (agm (c:=x.c) wK.2.2.2.2.2.2.2 aO ah) ?_ ?_<;>intro hn))|((with_reducible refine aA Dm ?_);(refine aS (aa8 wF aO ah) ?_ ?_<;>intro hn))|((with_reducible refine aA kZ ?_);(refine aS (sw (w:=x.w) aO ah ah ah) ?_ ?_<;>intro hn))|((with_reducible refine aA pX ?_);(refine aK (xC (w:=x.w) aO ah ah ah) ?_;rintro _ _ ⟨e_,_,_,_⟩;have n_:=e_.1;(try simp only[aH,aN] at n_)))|((with_reducible refine aA pV ?_);(refine aS (DC (b:=x.b)) ?_ ?_<;>intro hn))|((with_reducible refine aA En ?_);(refine aS (ad4 ah) ?_ ?_<;>intro hn))|((with_reducible refine aA Dn ?_);refine aJ (aa9 (l:=x.st) aO ah) ?_)|fail)
 all_goals first
  |(refine pf fun k=>?_;obtain⟨⟨a1,a2,a3,a4,a5,a6,a7,a8,a9,a10,a11,a12,a13,a14,a15,a16,a17,a18,a19⟩,b1,b2⟩:=k;first|contradiction|omega|(have a20:=a15 (by assumption);omega))
  |skip
 all_goals
  refine aT x.queue.length (fun i vs h1=>vs=[.int .i64 (i:Int)]∧i≤x.queue.length∧Ext (h.push ⟨(x.cs v0 v1 v2 v3 v4 v5 v6 v7 v8 v9 v10),0,0⟩) h1∧cu x.queue (fun _ y=>lH y) i) ⟨rfl,Nat.zero_le _,aD,up0⟩ ?_
  rintro i vs h1 _ ⟨rfl,hi,e1,hu⟩
  simp only[g0]
  refine vs ?_
  refine br (fun hlt=>?_) (fun hge=>?_)
  ·obtain⟨t,ht,-,-⟩:=aP (show i < x.queue.length by omega)
   have hm:=List.mem_of_getElem? ht
   have hsz:=bC hm
   (repeat' first|refine vs ?_|((with_reducible refine aA sN ?_);(refine aS (Kz (x:=t) (sZ t hm).2 (by omega) ah) ?_ ?_<;>intro hn))|((with_reducible refine aY ?_);((refine ix ?_);rintro _ _ _ _ _ ⟨_,rfl,_⟩ _))|fail)
   all_goals first
    |exact pf fun k=>jP ht (by assumption) k.1.2.2.2.2.2.2.2.2.2.2.2.2.2.2.2.2.1
    |exact⟨by omega,rfl,by omega,aD,upS hu ht (by assumption)⟩
  have ei:i=x.queue.length:=by omega
  rw[ei] at hu
  have hQ:=fV hu
  clear hi hge hu ei
  (repeat' first|refine vs ?_|fail)
  refine aT x.out.length (fun i vs h2=>vs=[.int .i64 (i:Int)]∧i≤x.out.length∧Ext (h.push ⟨(x.cs v0 v1 v2 v3 v4 v5 v6 v7 v8 v9 v10),0,0⟩) h2∧cu x.out (fun _ y=>lH y) i) ⟨rfl,Nat.zero_le _,aD,up0⟩ ?_
  clear e1
  rintro i vs h2 _ ⟨rfl,hi,e1,hu⟩
  simp only[g0]
  refine vs ?_
  refine br (fun hlt=>?_) (fun hge=>?_)
  ·obtain⟨t,ht,-,-⟩:=aP (show i < x.out.length by omega)
   have hm:=List.mem_of_getElem? ht
   have hsz:=bC hm
   (repeat' first|refine vs ?_|((with_reducible refine aA sN ?_);(refine aS (Kz (x:=t) (wh t hm).2 (by omega) ah) ?_ ?_<;>intro hn))|((with_reducible refine aY ?_);((refine ix ?_);rintro _ _ _ _ _ ⟨_,rfl,_⟩ _))|fail)
   all_goals first
    |exact pf fun k=>jP ht (by assumption) k.1.2.2.2.2.2.2.2.2.2.2.2.2.2.2.2.2.2.1
    |exact⟨by omega,rfl,by omega,aD,upS hu ht (by assumption)⟩
  have ei:i=x.out.length:=by omega
  rw[ei] at hu
  have hO:=fV hu
  clear hi hge hu ei
  (repeat' first|refine vs ?_|fail)
  refine aT x.aF.length (fun i vs h2=>vs=[.int .i64 (i:Int)]∧i≤x.aF.length∧Ext (h.push ⟨(x.cs v0 v1 v2 v3 v4 v5 v6 v7 v8 v9 v10),0,0⟩) h2∧cu x.aF (fun _ d=>nJ d∧d.inv < x.time∧d.lin < x.time∧d.res < x.time) i) ⟨rfl,Nat.zero_le _,aD,up0⟩ ?_
  clear e1
  rintro i vs h2 _ ⟨rfl,hi,e1,hu⟩
  simp only[g0]
  refine vs ?_
  refine br (fun hlt=>?_) (fun hge=>?_)
  ·obtain⟨t,ht,-,-⟩:=aP (show i < x.aF.length by omega)
   (repeat' first|refine vs ?_|(refine br ?_ ?_<;>first|exact bx|intro _)|((with_reducible refine aA E8 ?_);(refine aS (agl (d:=t)) ?_ ?_<;>intro hn))|((with_reducible refine aY ?_);((refine ix ?_);rintro _ _ _ _ _ ⟨_,rfl,_⟩ _))|fail)
   all_goals first
    |(refine pf fun k=>jP ht (by rintro⟨a1,a2⟩;first|contradiction|omega) k.1.2.2.2.2.2.2.2.2.2.2.2.2.2.2.2.2.2.2)
    |exact⟨by omega,rfl,by omega,aD,upS hu ht ⟨by assumption,by omega⟩⟩
  have ei:i=x.aF.length:=by omega
  rw[ei] at hu
  have ML:=fV hu
  have hV:Ho x:=⟨by assumption,by omega,by omega,by assumption,by omega,by assumption,by omega,by omega,by omega,by assumption,by omega,by omega,by assumption,by omega,by intro hh;first|omega|(rw[hsh] at hh;cases hh),by omega,hQ,hO,ML⟩
  (repeat' first|refine vs ?_|((with_reducible refine aA Dl ?_);(refine aS (aa6 (x:=x) aO ok0 hs0 ⟨_,_,_,_,_,_,_,_,_,_,_,_,_,_,_,_,_,_,_,_,_,_,rfl,rfl,ah,ah,ah,ah,ah,ah,ah,ah,ah,ah,ah⟩) ?_ ?_<;>intro hn))|((with_reducible refine aA DL ?_);(refine aS (acv (x:=x) ok0 hs0 ⟨_,_,_,_,_,_,_,_,_,_,_,_,_,_,_,_,_,_,_,_,_,_,rfl,rfl,ah,ah,ah,ah,ah,ah,ah,ah,ah,ah,ah⟩) ?_ ?_<;>intro hn))|fail)
  all_goals first
   |exact pt ⟨hV,by omega,by assumption,by assumption⟩
   |exact pf fun k=>by first|exact absurd k.2.2.1 (by assumption)|exact absurd k.2.2.2 (by assumption)
end Go.Proofs.YtkdjapahgmflbaaGreat
