import Derived.Test.YtcgjihfngdhjjaaGreatDKW1
import Derived.Test.YtcgjihfngdhjjaaGreatDW40
import Derived.Test.YtcgjihfngdhjjaaGreatDK5
import Derived.Test.YtcgjihfngdhjjaaGreatDXFnNothingBehind
import Derived.Test.YtcgjihfngdhjjaaGreatDKW2
section
set_option linter.unusedSimpArgs false
set_option linter.unusedVariables false
set_option maxHeartbeats 2000000
namespace Go.Proofs.YtcgjihfngdhjjaaGreat
open Go Go.Ab
section
def Og (x0 x1:AV):Prog:=.op (.box x0) fun a=>.op (.box x1) fun b=>Lg 0 a fun a=>Lg 0 b fun b=>Cl yC [a,b] fun a=>.fin [.val a]
theorem Z7 (x0 x1:AV):CC Tryz.prog Ed [x0,x1] (Og x0 x1):=cc Tryz.func54
def Ov (x0:AV):Prog:=Cl AU [x0] fun a=>.op (.call Ju [a,.fn Ed []]) fun _=>.fin [.val a]
theorem aaA (x0:AV):CC Tryz.prog JF [x0] (Ov x0):=cc Tryz.func17
end
def tL (l:List aR):List Trail:=bS Trail.id (allT l)
theorem Z4 {h:AH} {x y:Trail} {v w:AV}:aP Tryz.prog Ed [.agg (x.cs v),.agg (y.cs w)] h (.int .i64 (yg x.id y.id)):=by
 refine reader (Z7 _ _) (by simp only[old]) ?_
 unfold Og
 (repeat' first|refine vs ?_|((with_reducible refine aG yC ?_);refine aQ Ol ?_)|fail)
 exact pi rfl
theorem aai {h:AH} {l:List aR} {v:AV} {F:List Nat} (hs:l.length+szs l≤67108864) (r:ah h v l F):bq Tryz.prog JF [v] h (rF Trail h (tL l)):=by
 refine aaA _ ?_
 unfold Ov
 refine aL (JK hs r) ?_
 rintro u h1 ⟨e1,G,ru,ou⟩
 refine aL (afs (key:=Trail.id) (U0:=fun _=>True) ru ou ?_ (fun _ _=>trivial)) ?_
 ·refine⟨Ed,[],rfl,fun h2 k2 x y cx cy Fx Fy _ _ rx ry=>?_⟩
  obtain⟨vx,rfl,_⟩:=rx
  obtain⟨vy,rfl,_⟩:=ry
  exact Z4
 ·rintro _ h2 ⟨k2,F2,p2,r2,o2⟩
  exact jB ⟨rfl,_,rfl,k2.ext e1 fun b hb=>(ou.2 b hb).1,F2,r2,o2⟩
end Go.Proofs.YtcgjihfngdhjjaaGreat
end
section
set_option linter.unusedSimpArgs false
set_option linter.unusedVariables false
namespace Go.Proofs.YtcgjihfngdhjjaaGreat
open Go Go.Ab
section
variable{x:Wld}
theorem TI.find (h:TI x) (hI:WI x) {t:Ab.Timer} (ht:t∈timers x.w):∃ u,dP x.st t.trace=some u∧u.stamp=t.id∧t.at_=cK u.first x.c.wait:=by
 obtain⟨f,hf,ef⟩:=h.a t ht
 obtain⟨u,hu,e⟩:=List.mem_map.1 hf
 have e1:u.stamp=t.id:=congrArg Prod.fst e
 have e2:u.id=t.trace:=congrArg (fun p=>p.2.1) e
 have e3:u.first=f:=congrArg (fun p=>p.2.2) e
 exact⟨u,by rw[←e2];exact GK hI.st hu,e1,by rw[e3];exact ef⟩
theorem TI.len (h:TI x) (hI:WI x):(timers x.w).length≤(tL x.st).length:=by
 unfold tL
 rw[jP]
 have h1:=GD (l:=(timers x.w).map (·.id)) (m:=(allT x.st).map (·.stamp)) (iw.1 hI.w).nd fun a ha=>by
  obtain⟨t,ht,e⟩:=List.mem_map.1 ha
  obtain⟨f,hf,-⟩:=h.a t ht
  obtain⟨u,hu,e2⟩:=List.mem_map.1 hf
  refine List.mem_map.2 ⟨u,hu,?_⟩
  rw[←e];exact congrArg Prod.fst e2
 rwa [List.length_map,List.length_map] at h1
theorem TI.there (h:TI x) {u:Trail} (hu:u∈tL x.st):(cK u.first x.c.wait≤x.w.now∨x.shut=true)∨∃ (k:Nat) (t:Ab.Timer),(timers x.w)[k]? =some t∧t.id=u.stamp:=by
 unfold tL at hu
 rw[BH] at hu
 rcases h.d (tr3 u) (List.mem_map.2 ⟨u,hu,rfl⟩) with q|q|⟨t,ht,e⟩
 ·exact .inl (.inr q)
 ·exact .inl (.inl q)
 ·obtain⟨k,hk⟩:=List.mem_iff_getElem?.1 ht
  exact .inr ⟨k,t,hk,e⟩
theorem WI.later (h:WI x) {t:Ab.Timer} (ht:t∈timers x.w): ¬ t.at_≤x.w.now:=by
 have:=((iw.1 h.w).ahead t ht).2.2.1;omega
end
end Go.Proofs.YtcgjihfngdhjjaaGreat
end
section
set_option linter.unusedSimpArgs false
set_option linter.unusedVariables false
set_option maxHeartbeats 4000000
set_option maxRecDepth 20000
namespace Go.Proofs.YtcgjihfngdhjjaaGreat
open Go Go.Ab
section
def Oo (x0:AV):Prog:=Bn .geq x0 (.int .u64 4294967296) fun a=>.scope (.ite a (Bn .shr x0 (.int .u64 32) fun a=>.leaf 0 [a,.int .i64 32]) (.leaf 0 [x0,.int .i64 0])) (fun a=>Bn .geq (g a 0) (.int .u64 65536) fun b=>.scope (.ite b (Bn .shr (g a 0) (.int .u64 16) fun b=>Bn .add (g a 1) (.int .i64 16) fun a=>.leaf 0 [b,a]) (.leaf 0 [g a 0,g a 1])) (fun a=>Bn .geq (g a 0) (.int .u64 256) fun b=>.scope (.ite b (Bn .shr (g a 0) (.int .u64 8) fun b=>Bn .add (g a 1) (.int .i64 8) fun a=>.leaf 0 [b,a]) (.leaf 0 [g a 0,g a 1])) (fun a=>.op (.conv .u8 (g a 0)) fun b=>.op (.jM (.str ⟨#[0,1,2,2,3,3,3,3,4,4,4,4,4,4,4,4,5,5,5,5,5,5,5,5,5,5,5,5,5,5,5,5,6,6,6,6,6,6,6,6,6,6,6,6,6,6,6,6,6,6,6,6,6,6,6,6,6,6,6,6,6,6,6,6,7,7,7,7,7,7,7,7,7,7,7,7,7,7,7,7,7,7,7,7,7,7,7,7,7,7,7,7,7,7,7,7,7,7,7,7,7,7,7,7,7,7,7,7,7,7,7,7,7,7,7,7,7,7,7,7,7,7,7,7,7,7,7,7,8,8,8,8,8,8,8,8,8,8,8,8,8,8,8,8,8,8,8,8,8,8,8,8,8,8,8,8,8,8,8,8,8,8,8,8,8,8,8,8,8,8,8,8,8,8,8,8,8,8,8,8,8,8,8,8,8,8,8,8,8,8,8,8,8,8,8,8,8,8,8,8,8,8,8,8,8,8,8,8,8,8,8,8,8,8,8,8,8,8,8,8,8,8,8,8,8,8,8,8,8,8,8,8,8,8,8,8,8,8,8,8,8,8,8,8,8,8,8,8,8,8,8,8,8,8,8,8]⟩) b) fun b=>.op (.conv .i64 b) fun b=>Bn .add (g a 1) b fun a=>.fin [.val a]) fun a b=>aC a 1 (.leaf 1 b) .bad) fun a b=>aC a 1 (.leaf 1 b) .bad) fun a b=>aC a 1 (.leaf 1 b) .bad
theorem aav (x0:AV):CC Tryz.prog Ef [x0] (Oo x0):=cc Tryz.func198 [0,2] (fun _=>[])
def Pq (x0:AV):Prog:=.ite (.bool false) (.op (.conv .u32 x0) fun a=>Cl aas [a] fun a=>.fin [.val a]) (Cl Ef [x0] fun a=>.fin [.val a])
theorem abH (x0:AV):CC Tryz.prog Ey [x0] (Pq x0):=cc Tryz.func118
def NS (x0 x1 x2:AV):Prog:=Bn .add x1 (.int .i64 1) fun a=>.loop [a,.tup []] (fun a=>Bn .lss (g a 0) x2 fun b=>.ite b (.loop [g a 0] (fun a=>Bn .gtr (g a 0) x1 fun b=>.gop b true (.mv x0) fun c=>.gop b true (.mv (g a 0)) fun d=>.gop b true (.idx 1 c d) fun c=>.gop b true (.ld1 c) fun c=>.gop b true (.mv x0) fun d=>.gop b true (.mv (g a 0)) fun e=>.gop b true (.bin 0 .sub e (.int .i64 1)) fun e=>.gop b true (.idx 1 d e) fun d=>.gop b true (.ld1 d) fun d=>.gop b true (.call QS [c,d]) fun c=>Pk b c (.bool false) fun b=>.ite b (Bn .sub (g a 0) (.int .i64 1) fun b=>Bn .sub (g a 0) (.int .i64 1) fun c=>Ix 1 x0 c fun c=>.op (.ld1 c) fun c=>Ix 1 x0 (g a 0) fun d=>.op (.ld1 d) fun d=>Ix 1 x0 (g a 0) fun e=>.op (.st 1 e c) fun _=>Ix 1 x0 b fun b=>.op (.st 1 b d) fun _=>Bn .sub (g a 0) (.int .i64 1) fun a=>.leaf 0 [a]) (.leaf 4 [g a 0])) fun b c=>aC b 1 (.leaf 1 c) (aC b 4 (Bn .add (g a 0) (.int .i64 1) fun a=>.leaf 0 [a,g c 0]) .bad)) (.leaf 2 [g a 0,g a 1])) fun a b=>aC a 1 (.leaf 1 b) (aC a 2 (.fin []) .bad)
theorem Y4 (x0 x1 x2:AV):CC Tryz.prog DW [x0,x1,x2] (NS x0 x1 x2):=cc Tryz.func188 [0,1,2,6,7] (fun r=>if r=4 then[(0,[]),(1,[]),(2,[]),(3,[]),(4,[]),(5,[]),(6,[]),(7,[]),(8,[]),(9,[]),(10,[]),(11,[]),(12,[]),(13,[]),(14,[])] else if r=6 then[(0,[]),(1,[]),(2,[]),(3,[]),(4,[]),(5,[]),(6,[]),(7,[]),(8,[]),(9,[]),(10,[]),(11,[]),(12,[]),(13,[]),(14,[]),(15,[]),(16,[]),(17,[])] else[])
def NU (x0 x1 x2 x3:AV):Prog:=.loop [x1,x2,x3,.bool true,.bool true,.tup [],.tup [],.tup []] (fun a=>.scope (Bn .sub (g a 1) (g a 0) fun b=>Bn .leq b (.int .i64 12) fun c=>.ite c (Cl DW [x0,g a 0,g a 1] fun _=>.fin []) (Bn .eql (g a 2) (.int .i64 0) fun c=>.ite c (Cl Zj [x0,g a 0,g a 1] fun _=>.fin []) (.op (.una .not (g a 3)) fun c=>.scope (.ite c (Cl Y3 [x0,g a 0,g a 1] fun _=>Bn .sub (g a 2) (.int .i64 1) fun a=>.leaf 0 [a]) (.leaf 0 [g a 2])) (fun c=>Cl Y8 [x0,g a 0,g a 1] fun d=>.op (.ext d 0) fun e=>.op (.ext d 1) fun d=>Bn .eql d (.int .i64 2) fun f=>.scope (.ite f (Cl Y6 [x0,g a 0,g a 1] fun _=>Bn .sub (g a 1) (.int .i64 1) fun b=>Bn .sub e (g a 0) fun a=>Bn .sub b a fun a=>.leaf 0 [a,.int .i64 1]) (.leaf 0 [e,d])) (fun d=>.gop (g a 3) true (.mv (g a 4)) fun e=>Pk (g a 3) e (.bool false) fun e=>.gop e true (.mv (g d 1)) fun f=>.gop e true (.bin 0 .eql f (.int .i64 1)) fun f=>Pk e f (.bool false) fun e=>.scope (.ite e (Cl YX [x0,g a 0,g a 1] fun a=>.ite a (.fin []) (.leaf 0 [])) (.leaf 0 [])) (fun _=>Bn .gtr (g a 0) (.int .i64 0) fun e=>.gop e true (.mv x0) fun f=>.gop e true (.mv (g a 0)) fun i=>.gop e true (.bin 0 .sub i (.int .i64 1)) fun i=>.gop e true (.idx 1 f i) fun f=>.gop e true (.ld1 f) fun f=>.gop e true (.mv x0) fun i=>.gop e true (.mv (g d 0)) fun j=>.gop e true (.idx 1 i j) fun i=>.gop e true (.ld1 i) fun i=>.gop e true (.call QS [f,i]) fun f=>.gop e true (.una .not f) fun f=>Pk e f (.bool false) fun e=>.ite e (Cl Y1 [x0,g a 0,g a 1,g d 0] fun e=>.leaf 0 [e,g a 1,g c 0,g a 3,g a 4,b,g d 0,g d 1]) (Cl Zd [x0,g a 0,g a 1,g d 0] fun e=>.op (.ext e 0) fun f=>.op (.ext e 1) fun e=>Bn .sub f (g a 0) fun i=>Bn .sub (g a 1) f fun j=>Bn .quo b (.int .i64 8) fun k=>Bn .lss i j fun l=>.scope (.ite l (Bn .geq i k fun b=>Cl yx [x0,g a 0,f,g c 0] fun _=>Bn .add f (.int .i64 1) fun c=>.leaf 0 [c,g a 1,b]) (Bn .geq j k fun b=>Bn .add f (.int .i64 1) fun d=>Cl yx [x0,d,g a 1,g c 0] fun _=>.leaf 0 [g a 0,f,b])) (fun a=>.leaf 0 [g a 0,g a 1,g c 0,g a 2,e,b,g d 0,g d 1]) fun a b=>aC a 1 (.leaf 1 b) .bad)) fun a b=>aC a 1 (.leaf 1 b) .bad) fun a b=>aC a 1 (.leaf 1 b) .bad) fun a b=>aC a 1 (.leaf 1 b) .bad))) (fun a=>.leaf 0 [g a 0,g a 1,g a 2,g a 3,g a 4,g a 5,g a 6,g a 7]) fun a b=>aC a 1 (.leaf 1 b) .bad) fun a b=>aC a 1 (.leaf 1 b) .bad
theorem Zo (x0 x1 x2 x3:AV):CC Tryz.prog yx [x0,x1,x2,x3] (NU x0 x1 x2 x3):=cc Tryz.func117 [0,1,2,3,8,9,10,11,12] (fun r=>if r=17 then[(0,[]),(1,[]),(2,[]),(3,[]),(4,[]),(5,[]),(6,[]),(7,[]),(8,[]),(9,[]),(10,[]),(11,[]),(12,[]),(13,[]),(14,[])] else[])
def Om (x0:AV):Prog:=Ln 0 x0 fun a=>.op (.conv .u64 a) fun b=>Cl Ey [b] fun b=>Cl yx [x0,.int .i64 0,a,b] fun _=>.fin []
theorem aau (x0:AV):CC Tryz.prog JC [x0] (Om x0):=cc Tryz.func55
def SI (x0 x1:AV):Prog:=.op (.box x0) fun a=>Ld 4 a fun a=>Cl rQ [a] fun a=>Ln 0 a fun b=>.loop [.aA,.int .i64 0] (fun c=>Bn .lss (g c 1) b fun b=>.ite b (Ix 3 a (g c 1) fun a=>Ld 3 a fun a=>.op (.alloc [.int .i64 0,.int .i64 0,.int .i64 0]) fun b=>.op (.st 3 b a) fun _=>Lg 2 b fun a=>Bn .leq a x1 fun a=>.scope (.ite a (Lg 0 b fun a=>.op (.aS 1 1 [.int .i64 0] [(0,1,a)]) fun a=>.op (.app 1 8 (g c 0) a) fun a=>.leaf 0 [a]) (.leaf 0 [g c 0])) (fun a=>Bn .add (g c 1) (.int .i64 1) fun b=>.leaf 0 [g a 0,b]) fun a b=>aC a 1 (.leaf 1 b) .bad) (.leaf 2 [g c 0,g c 1])) fun a b=>aC a 1 (.leaf 1 b) (aC a 2 (Cl JC [g b 0] fun _=>.fin [.val (g b 0)]) .bad)
theorem aeZ (x0 x1:AV):CC Tryz.prog KO [x0,x1] (SI x0 x1):=cc Tryz.func18 [1,5,9,10,11] (fun _=>[])
end
theorem aaf {h:AH}:aP Tryz.prog Ef [.int .u64 0] h (.int .i64 0):=by
 refine reader (aav _) (by simp only[old]) ?_
 unfold Oo
 (repeat' first|refine vs ?_|(refine br ?_ ?_<;>first|exact bx|intro _)|((with_reducible refine bB ?_);((first|refine ix ?_|refine ixi ?_|(refine ixg ?_;intro _ _)|(refine iP ?_;intro _ _));first|rintro _ _ _ _ _ ⟨rfl,rfl⟩ _|rintro _ _ _ _ _ ⟨_,rfl,_⟩ _|rintro _ _ _ _ _ ⟨_,_,_,_,rfl,rfl,_,_⟩ _|intro _ _ _ _ _ _ _))|(refine sx ?_;intro _ _)|refine gS ?_|fail)
 refine Hu ?_
 refine sx1 (c:=0) (i:=0) rfl ?_
 (repeat' first|refine vs ?_|(refine br ?_ ?_<;>first|exact bx|intro _)|((with_reducible refine bB ?_);((first|refine ix ?_|refine ixi ?_|(refine ixg ?_;intro _ _)|(refine iP ?_;intro _ _));first|rintro _ _ _ _ _ ⟨rfl,rfl⟩ _|rintro _ _ _ _ _ ⟨_,rfl,_⟩ _|rintro _ _ _ _ _ ⟨_,_,_,_,rfl,rfl,_,_⟩ _|intro _ _ _ _ _ _ _))|(refine sx ?_;intro _ _)|refine gS ?_|fail)
 all_goals first|exact pi rfl|(exfalso;omega)
theorem abh {h:AH}:aP Tryz.prog Ey [.int .u64 0] h (.int .i64 0):=by
 refine reader (abH _) (by simp only[old]) ?_
 unfold Pq
 (repeat' first|refine vs ?_|(refine br ?_ ?_<;>first|exact bx|intro _)|((with_reducible refine aG Ef ?_);refine aQ aaf ?_)|((with_reducible refine bB ?_);((first|refine ix ?_|refine ixi ?_|(refine ixg ?_;intro _ _)|(refine iP ?_;intro _ _));first|rintro _ _ _ _ _ ⟨rfl,rfl⟩ _|rintro _ _ _ _ _ ⟨_,rfl,_⟩ _|rintro _ _ _ _ _ ⟨_,_,_,_,rfl,rfl,_,_⟩ _|intro _ _ _ _ _ _ _))|(refine sx ?_;intro _ _)|refine gS ?_|fail)
 exact pi rfl
theorem Tj {P:Program} {h:AH} {Q:Nat→List AV→AH→Prop} {k:AV→Prog} (hk:(k (.int .i64 0)).awp P h Q):(Prog.op (.len 0 .aA) k).awp P h Q:=hk
theorem agi {h:AH}:aP Tryz.prog DW [.aA,.int .i64 0,.int .i64 0] h (.tup []):=by
 refine reader (Y4 _ _ _) (by simp only[old,olds]) ?_
 unfold NS
 (repeat' first|refine vs ?_|(refine br ?_ ?_<;>first|exact bx|intro _)|((with_reducible refine bB ?_);((first|refine ix ?_|refine ixi ?_|(refine ixg ?_;intro _ _)|(refine iP ?_;intro _ _));first|rintro _ _ _ _ _ ⟨rfl,rfl⟩ _|rintro _ _ _ _ _ ⟨_,rfl,_⟩ _|rintro _ _ _ _ _ ⟨_,_,_,_,rfl,rfl,_,_⟩ _|intro _ _ _ _ _ _ _))|(refine sx ?_;intro _ _)|refine gS ?_|fail)
 refine aX 0 (fun i vs h'=>vs=[.int .i64 1,.tup []]∧h'=h) ⟨rfl,rfl⟩ ?_
 rintro i vs h' _ ⟨rfl,rfl⟩
 simp only[g0,g1]
 (repeat' first|refine vs ?_|(refine br ?_ ?_<;>first|exact bx|intro _)|((with_reducible refine bB ?_);((first|refine ix ?_|refine ixi ?_|(refine ixg ?_;intro _ _)|(refine iP ?_;intro _ _));first|rintro _ _ _ _ _ ⟨rfl,rfl⟩ _|rintro _ _ _ _ _ ⟨_,rfl,_⟩ _|rintro _ _ _ _ _ ⟨_,_,_,_,rfl,rfl,_,_⟩ _|intro _ _ _ _ _ _ _))|(refine sx ?_;intro _ _)|refine gS ?_|fail)
 exact nu ⟨rfl,rfl,aI⟩
theorem ajh {h:AH} {k:Int}:aP Tryz.prog yx [.aA,.int .i64 0,.int .i64 0,.int .i64 k] h (.tup []):=by
 refine reader (Zo _ _ _ _) (by simp only[old,olds]) ?_
 unfold NU
 refine aX 0 (fun i vs h'=>vs=[.int .i64 0,.int .i64 0,.int .i64 k,.bool true,.bool true,.tup [],.tup [],.tup []]∧h'=h) ⟨rfl,rfl⟩ ?_
 rintro i vs h' _ ⟨rfl,rfl⟩
 simp only[g0,g1]
 (repeat' first|refine vs ?_|((with_reducible refine aG DW ?_);refine aQ agi ?_)|(refine br ?_ ?_<;>first|exact bx|intro _)|((with_reducible refine bB ?_);((first|refine ix ?_|refine ixi ?_|(refine ixg ?_;intro _ _)|(refine iP ?_;intro _ _));first|rintro _ _ _ _ _ ⟨rfl,rfl⟩ _|rintro _ _ _ _ _ ⟨_,rfl,_⟩ _|rintro _ _ _ _ _ ⟨_,_,_,_,rfl,rfl,_,_⟩ _|intro _ _ _ _ _ _ _))|(refine sx ?_;intro _ _)|refine gS ?_|fail)
 exact nu ⟨rfl,rfl,aI⟩
theorem ah3 {h:AH}:aP Tryz.prog JC [.aA] h (.tup []):=by
 refine reader (aau _) (by simp only[old,olds]) ?_
 unfold Om
 (repeat' first|refine vs ?_|(refine Tj ?_)|(refine Hu ?_)|((with_reducible refine aG yx ?_);refine aQ ajh ?_)|(refine br ?_ ?_<;>first|exact bx|intro _)|((with_reducible refine aG Ey ?_);refine aQ abh ?_)|((with_reducible refine bB ?_);((first|refine ix ?_|refine ixi ?_|(refine ixg ?_;intro _ _)|(refine iP ?_;intro _ _));first|rintro _ _ _ _ _ ⟨rfl,rfl⟩ _|rintro _ _ _ _ _ ⟨_,rfl,_⟩ _|rintro _ _ _ _ _ ⟨_,_,_,_,rfl,rfl,_,_⟩ _|intro _ _ _ _ _ _ _))|(refine sx ?_;intro _ _)|refine gS ?_|fail)
 exact nu ⟨rfl,rfl,aI⟩
theorem adz {h:AH} {w:bn} {v0 v1 v2:AV} {F0 F1 F2:List Nat} {k:Int} (hs:Sz.sz w≤67108864) (r0:ah h v0 w.near F0) (r1:ah h v1 w.far F1) (r2:ah h v2 w.rest F2) (hk:∀ t∈timers w,¬ t.at_≤k):bq Tryz.prog KO [.agg (w.cs v0 v1 v2),.int .i64 k] h fun u h'=>u= .aA∧Ext h h':=by
 refine aeZ _ _ ?_
 unfold SI
 (repeat' first|refine vs ?_|(refine br ?_ ?_<;>first|exact bx|intro _)|((with_reducible refine bB ?_);((first|refine ix ?_|refine ixi ?_|(refine ixg ?_;intro _ _)|(refine iP ?_;intro _ _));first|rintro _ _ _ _ _ ⟨rfl,rfl⟩ _|rintro _ _ _ _ _ ⟨_,rfl,_⟩ _|rintro _ _ _ _ _ ⟨_,_,_,_,rfl,rfl,_,_⟩ _|intro _ _ _ _ _ _ _))|(refine sx ?_;intro _ _)|refine gS ?_|fail)
 refine aL (yK (w:=w) hs aB aB aB) ?_
 rintro ut h1 ⟨e1,Gt,rt,ot⟩
 have n1:=e1.1
 simp only[aJ] at n1
 have hl:=rt.small
 refine eG rt ?_
 refine aX (timers w).length (fun i vs h'=>vs=[.aA,.int .i64 (i:Int)]∧i≤(timers w).length∧Ext h1 h') ⟨rfl,Nat.zero_le _,aI⟩ ?_
 rintro i vs h' _ ⟨rfl,hi,e2⟩
 have n2:=e2.1
 simp only[g0,g1]
 have rt2:ah h' ut (timers w) Gt:=aB
 refine br (fun q=>?_) (fun q=>?_)
 ·obtain⟨t,ht,-,-⟩:=aU (show i < (timers w).length by omega)
  have hn:=hk t (List.mem_of_getElem? ht)
  (repeat' first|refine vs ?_|(refine br ?_ ?_<;>first|exact bx|intro _)|((with_reducible refine bB ?_);((first|refine ix ?_|refine ixi ?_|(refine ixg ?_;intro _ _)|(refine iP ?_;intro _ _));first|rintro _ _ _ _ _ ⟨rfl,rfl⟩ _|rintro _ _ _ _ _ ⟨_,rfl,_⟩ _|rintro _ _ _ _ _ ⟨_,_,_,_,rfl,rfl,_,_⟩ _|intro _ _ _ _ _ _ _))|(refine sx ?_;intro _ _)|refine gS ?_|fail)
  all_goals first|exact⟨by omega,rfl,by omega,aI⟩|(exfalso;first|omega|contradiction)
 ·(repeat' first|refine vs ?_|(refine br ?_ ?_<;>first|exact bx|intro _)|((with_reducible refine bB ?_);((first|refine ix ?_|refine ixi ?_|(refine ixg ?_;intro _ _)|(refine iP ?_;intro _ _));first|rintro _ _ _ _ _ ⟨rfl,rfl⟩ _|rintro _ _ _ _ _ ⟨_,rfl,_⟩ _|rintro _ _ _ _ _ ⟨_,_,_,_,rfl,rfl,_,_⟩ _|intro _ _ _ _ _ _ _))|(refine sx ?_;intro _ _)|refine gS ?_|fail)
  refine aQ ah3 ?_
  (repeat' first|refine vs ?_|(refine br ?_ ?_<;>first|exact bx|intro _)|((with_reducible refine bB ?_);((first|refine ix ?_|refine ixi ?_|(refine ixg ?_;intro _ _)|(refine iP ?_;intro _ _));first|rintro _ _ _ _ _ ⟨rfl,rfl⟩ _|rintro _ _ _ _ _ ⟨_,rfl,_⟩ _|rintro _ _ _ _ _ ⟨_,_,_,_,rfl,rfl,_,_⟩ _|intro _ _ _ _ _ _ _))|(refine sx ?_;intro _ _)|refine gS ?_|fail)
  exact⟨rfl,_,rfl,rfl,aI⟩
end Go.Proofs.YtcgjihfngdhjjaaGreat
end
