import Derived.Test.YtcgjihfngdhjjaaGreatDXFnLocks
import Derived.Test.YtcgjihfngdhjjaaGreatDW60
import Derived.Test.YtcgjihfngdhjjaaGreatDW144
import Derived.Test.YtcgjihfngdhjjaaGreatDKW2
import Derived.Test.YtcgjihfngdhjjaaGreatDKW1
set_option linter.unusedSimpArgs false
set_option linter.unusedVariables false
set_option maxHeartbeats 4000000
set_option maxRecDepth 20000
namespace Go.Proofs.YtcgjihfngdhjjaaGreat
open Go Go.Ab
section
abbrev ZT (v42:AV) (v37:AV) (v7:AV) (Nc:List AV) (v3:AV):Prog:=Gf v42 false 1 v37 fun a=>.gop v42 false (.mv v7) fun b=>.gop v42 false (.mv (g Nc 0)) fun c=>.gop v42 false (.idx 3 b c) fun b=>Gf v42 false 0 b fun b=>.gop v42 false (.bin 0 .neq a b) fun a=>Pk v42 (.bool true) a fun a=>.gop a false (.mv v7) fun b=>.gop a false (.mv (g Nc 0)) fun c=>.gop a false (.idx 3 b c) fun b=>.gop a false (.fad 2 b) fun b=>.gop a false (.ld1 b) fun c=>.gop a false (.fad 0 v3) fun d=>.gop a false (.ldn 12 d) fun d=>Gf a false 2 v37 fun e=>.gop a false (.call yF [d,e]) fun d=>.lN a false (.ld1 b) c (.gop a false (.bin 0 .neq c d) fun b=>Pk a (.bool true) b fun a=>.ite a (.fin [.val (.bool false)]) (Bn .add (g Nc 0) (.int .i64 1) fun a=>.leaf 0 [a]))
abbrev ZR (v77:AV) (v79:AV) (v7:AV) (v10:AV) (Ya:List AV):Prog:=Pk v77 (.bool true) v79 fun a=>.loop [a,.int .i64 0] (fun a=>Ln 0 v7 fun b=>Bn .lss (g a 1) b fun b=>.ite b (.gop (g a 0) false (.mv v7) fun b=>.gop (g a 0) false (.mv (g a 1)) fun c=>.gop (g a 0) false (.idx 3 b c) fun b=>.gop (g a 0) false (.fad 0 b) fun b=>.gop (g a 0) false (.ld1 b) fun b=>.gop (g a 0) false (.mv v10) fun c=>.gop (g a 0) false (.mv (g Ya 0)) fun d=>.gop (g a 0) false (.idx 4 c d) fun c=>.gop (g a 0) false (.fad 1 c) fun c=>.gop (g a 0) false (.ld1 c) fun c=>.gop (g a 0) false (.bin 0 .eql b c) fun b=>Pk (g a 0) (.bool true) b fun b=>Bn .add (g a 1) (.int .i64 1) fun a=>.leaf 0 [b,a]) (.leaf 6 [g a 0,g a 1])) fun a b=>aC a 1 (.leaf 1 b) (aC a 6 (.op (.una .not (g b 0)) fun a=>.ite a (.fin [.val (.bool false)]) (Bn .add (g Ya 0) (.int .i64 1) fun a=>.leaf 0 [a,g b 0,g b 1])) .bad)
abbrev ZQ (v19:AV) (v20:AV) (v3:AV) (v7:AV) (v10:AV):Prog:=.gop v19 false (.ldn 4 v20) fun a=>.gop v19 false (.ldn 32 v3) fun b=>.gop v19 false (.call wH [b]) fun b=>.lN v19 false (.ldn 4 v20) a (.gop v19 false (.call KO [a,b]) fun a=>.gop v19 false (.len 0 a) fun a=>.gop v19 false (.bin 0 .neq a (.int .i64 0)) fun a=>Pk v19 (.bool true) a fun a=>.ite a (.fin [.val (.bool false)]) (.loop [.int .i64 0] (fun a=>Ln 0 v7 fun b=>Bn .lss (g a 0) b fun b=>.ite b (Lg 14 v3 fun b=>Ix 3 v7 (g a 0) fun c=>Lg 1 c fun c=>.op (.alloc [.int .i64 0,.int .i64 0,.int .i64 0,.aA]) fun d=>Cl Et [b,c] fun b=>.chk (.alloc [.int .i64 0,.int .i64 0,.int .i64 0,.aA]) d (.op (.ext b 0) fun c=>.op (.ext b 1) fun b=>.op (.st 4 d c) fun _=>.op (.una .not b) fun b=>ZT b d v7 a v3)) (.leaf 2 [g a 0])) fun a b=>aC a 1 (.leaf 1 b) (aC a 2 (.loop [.int .i64 0,.tup [],.tup []] (fun a=>Ln 0 v10 fun b=>Bn .lss (g a 0) b fun b=>.ite b (.op (.fad 0 v3) fun b=>Ld 12 b fun b=>Ix 4 v10 (g a 0) fun c=>Lg 2 c fun c=>Ld 32 v3 fun d=>Cl yF [b,c] fun b=>.chk (.ldn 32 v3) d (Cl wH [d] fun c=>Bn .leq b c fun b=>Gf b false 13 v3 fun c=>ZR b c v7 v10 a)) (.leaf 4 [g a 0,g a 1,g a 2])) fun a b=>aC a 1 (.leaf 1 b) (aC a 4 (.fin [.val (.bool true)]) .bad)) .bad)))
def Oc (x0:AV):Prog:=Cl Bu [x0] fun a=>.ite a (.fin [.val (.bool true)]) (Cl AP [x0] fun a=>.op (.alloc jh) fun b=>.op (.st 32 b a) fun _=>.op (.fad 22 b) fun a=>Ld 4 a fun a=>Cl rQ [a] fun a=>Lg 14 b fun c=>Cl JF [c] fun c=>Ld 32 b fun d=>Cl l7 [d] fun d=>.op (.una .not d) fun d=>.gop d false (.mv a) fun e=>.gop d false (.len 0 e) fun e=>.gop d false (.mv c) fun f=>.gop d false (.len 0 f) fun f=>.gop d false (.bin 0 .gtr e f) fun e=>Pk d (.bool true) e fun d=>.gop d false (.fad 22 b) fun e=>ZQ d e b a c)
theorem ZY (x0:AV):CC Tryz.prog Od [x0] (Oc x0):=cc Tryz.func5 [3,4,5,6,9,10,11] (fun r=>if r=6 then[(0,[]),(1,[]),(2,[]),(3,[]),(4,[]),(5,[]),(6,[]),(7,[]),(8,[]),(9,[]),(10,[]),(11,[]),(12,[]),(13,[]),(14,[12]),(15,[]),(16,[]),(17,[]),(18,[])] else if r=11 then[(0,[]),(1,[]),(2,[]),(3,[]),(4,[]),(5,[]),(6,[]),(11,[]),(7,[11]),(8,[]),(9,[]),(10,[]),(12,[]),(13,[])] else if r=12 then[(0,[]),(1,[]),(2,[]),(3,[]),(4,[]),(5,[]),(6,[]),(7,[]),(8,[]),(9,[]),(10,[]),(11,[]),(12,[]),(13,[]),(14,[]),(15,[]),(16,[]),(17,[]),(18,[]),(19,[]),(20,[]),(21,[]),(22,[17]),(23,[]),(24,[])] else if r=17 then[(0,[]),(1,[]),(2,[]),(3,[]),(4,[]),(5,[]),(6,[]),(8,[]),(7,[8]),(9,[]),(10,[]),(11,[]),(12,[]),(13,[]),(14,[]),(15,[])] else if r=21 then[(0,[]),(1,[]),(2,[]),(3,[]),(4,[]),(5,[]),(6,[]),(7,[]),(8,[]),(9,[]),(10,[]),(11,[]),(12,[]),(13,[]),(14,[])] else[])
end
theorem fresh {P:Program} {p:Prog} {h h0:AH} {Q:Nat→List AV→AH→Prop} {b:Nat} {cs:List AV} (e:Ext h0 h) (bk:Bk h b cs 0) (k:∀ h9,Ext h0 h9→Bk h9 b cs 0→p.awp P h9 Q):p.awp P h Q:=k h e bk
theorem found {P : Program} {h : AH} {Q : Nat → List AV → AH → Prop} {ut uo : AV} {T : List Ab.Timer} {O : List Trail} {Ft Fo : List Nat} {i : Nat} {u : Trail} {c0 : Bool} {K : List AV → Prog} (rt : ah h ut T Ft) (ro : ah h uo O Fo) (hu : O[i]? = some u) (hx : c0 = true ∨ ∃ (j : Nat) (t : Ab.Timer), T[j]? = some t ∧ t.id = u.stamp) (hK : ∀ k : Int, (K [.bool true, .int .i64 k]).awp P h Q) : (Prog.loop [.bool c0, .int .i64 0] (fun jr => .op (.len 0 ut) fun v83 => .op (.bin 0 .lss (g jr 1) v83) fun v84 => .ite v84 (.gop (g jr 0) false (.mv ut) fun v85 => .gop (g jr 0) false (.mv (g jr 1)) fun v86 => .gop (g jr 0) false (.idx 3 v85 v86) fun v87 => .gop (g jr 0) false (.fad 0 v87) fun v88 => .gop (g jr 0) false (.ld1 v88) fun v89 => .gop (g jr 0) false (.mv uo) fun v90 => .gop (g jr 0) false (.mv (.int .i64 (i : Int))) fun v91 => .gop (g jr 0) false (.idx 4 v90 v91) fun v92 => .gop (g jr 0) false (.fad 1 v92) fun v93 => .gop (g jr 0) false (.ld1 v93) fun v94 => .gop (g jr 0) false (.bin 0 .eql v89 v94) fun v95 => .op (.pick (g jr 0) (AV.bool true) v95) fun v96 => .op (.bin 0 .add (g jr 1) (.int .i64 1)) fun v97 => .leaf 0 [v96, v97]) (.leaf 6 [g jr 0, g jr 1])) fun t82 jr => aC t82 1 (.leaf 1 jr) (aC t82 6 (K jr) .bad)).awp P h Q := by
  have qt := rt.small
  have hil := (List.getElem?_eq_some_iff.1 hu).1
  refine aX T.length (fun k vs h' => ∃ c : Bool, vs = [.bool c, .int .i64 (k : Int)] ∧ k ≤ T.length ∧ h' = h ∧ ((c0 = true ∨ ∃ (j : Nat) (t : Ab.Timer), j < k ∧ T[j]? = some t ∧ t.id = u.stamp) → c = true)) ⟨c0, rfl, Nat.zero_le _, rfl, fun q => q.elim id fun ⟨j, t, hj, _⟩ => by omega⟩ ?_
  rintro k vs h' _ ⟨c, rfl, hk, rfl, hc⟩
  simp only [g0, g1]
  refine eG rt ?_
  refine br (fun q => ?_) (fun q => ?_)
  · obtain ⟨t, ht, -, -⟩ := aU (show k < T.length by omega)
    cases c with
    | true =>
      (repeat' first|refine vs ?_|fail)
      exact ⟨by omega, true, rfl, by omega, rfl, fun _ => rfl⟩
    | false =>
      (repeat' first|refine vs ?_|(refine br ?_ ?_<;>first|exact bx|intro _)|((with_reducible refine bB ?_);((refine ix ?_);first|rintro _ _ _ _ _ ⟨rfl,rfl⟩ _|rintro _ _ _ _ _ ⟨_,rfl,_⟩ _))|fail)
      all_goals first
        | exact ⟨by omega, true, rfl, by omega, rfl, fun _ => rfl⟩
        | (refine ⟨by omega, false, rfl, by omega, rfl, fun p => ?_⟩
           rcases p with p | ⟨j, s, hj, hs, e⟩
           · exact hc (.inl p)
           · by_cases hjk : j = k
             · subst hjk
               rw [ht] at hs; cases hs
               exact absurd e (by assumption)
             · exact hc (.inr ⟨j, s, by omega, hs, e⟩))
  · have e : k = T.length := by omega
    subst e
    have hct : c = true := hc (hx.imp id fun ⟨j, t, ht, e⟩ => ⟨j, t, (List.getElem?_eq_some_iff.1 ht).1, ht, e⟩)
    subst hct
    (repeat' first|refine vs ?_|fail)
    exact hK _
theorem aat {h:AH} {v0:AV} {x0:List UInt8} {F0:List Nat} (r0:ah h v0 x0 F0) (k0:∀ x∈x0,Cel.ok x):aP Tryz.prog Od [v0] h (.bool true):=by
 refine reader (ZY _) (by simp only[old]) ?_
 unfold Oc
 refine dS (KY r0) ?_ ?_<;>intro hn<;>first|replace hn:=oU hn|replace hn:=wR hn
 ·(repeat' first|refine vs ?_|fail)
  exact pb rfl
 have hs:x0.length≤1048576:=by omega
 clear hn k0
 refine vs ?_
 refine aL (JJ hs aB) ?_
 rintro _ h1 ⟨x,cs,F,rfl,rp,o1,e1,hR⟩
 have n1:=e1.1
 obtain⟨ok,hz⟩:=hR.fit (by decide) (by decide)
 have hI:=hR.wi
 have h5:=hI.tl
 have l1:cs.length=32:=Cel.len rp
 refine iH ?_
 refine zU (by assumption) (by rfl) ?_
 have bk:Bk (h1.push ⟨cs,0,0⟩) h1.n cs 0:=aO
 have e2:Ext h1 (h1.push ⟨cs,0,0⟩):=aI
 generalize (h1.push ⟨cs,0,0⟩:AH)=h2 at bk e2 ⊢
 have n2:=e2.1
 have rx:Cel.rep h2 x cs F:=jJ rp e2
 have ry:=rx
 clear rp r0 o1
 obtain⟨v0,v1,v2,v3,v4,v5,v6,v7,v8,v9,v10,F0,F1,F2,F3,F4,F5,F6,F7,F8,F9,F10,rfl,rfl,r0,r1,r2,r3,r4,r5,r6,r7,r8,r9,r10⟩:=ry
 have bk:Bk h2 h1.n [AV.int .i64 x.c.dK,AV.int .i64 x.c.wait,AV.int .i64 x.c.budget,AV.int .i64 x.c.cache,AV.int .i64 x.c.queue,AV.int .i64 x.c.rate,AV.int .i64 x.c.aZ,AV.int .i64 x.c.rule.kind,AV.int .i64 x.c.rule.n,AV.str x.c.rule.key,AV.str x.c.rule.text,v0,AV.int .i64 x.time,AV.bool x.shut,v1,AV.int .i64 x.bg,AV.int .i64 x.b.rate,AV.int .i64 x.b.aZ,AV.int .i64 x.b.tokens,AV.int .i64 x.b.at_,v2,AV.int .i64 x.used,AV.int .i64 x.w.now,v3,v4,v5,v6,v7,v8,v9,v10,AV.int .i64 x.next] 0:=bk
 have s9:ah h2 v9 x.tasks F9:=r9
 have q7:=r7.small
 have q9:=r9.small
 have q1:=r1.small
 have lb:=bk.1
 have hs:Sz.sz x≤67108864:=by omega
 have hs:Sz.sz x.c+(x.st.length+szs x.st)+(x.cache.length+szs x.cache)+Sz.sz x.w+(x.due.length+szs x.due)+(x.queue.length+szs x.queue)+(x.out.length+szs x.out)+(x.tasks.length+szs x.tasks)+(x.aF.length+szs x.aF)≤67108864:=hs
 (repeat' first|refine vs ?_|fail)
 refine aL (yK (w:=x.w) (by omega) aB aB aB) ?_
 rintro ut h3 ⟨e3,Gt,rt,ot⟩
 have n3:=e3.1
 (repeat' first|refine vs ?_|fail)
 refine aL (aai (l:=x.st) (by omega) aB) ?_
 rintro uo h4 ⟨e4,Go_,ro,oo⟩
 have n4:=e4.1
 have qt:=rt.small
 have qo:=ro.small
 have rt4:ah h4 ut (timers x.w) Gt:=aB
 have hlen:=hR.ti.len hI
 have rx4:Cel.rep h4 x _ _:=jJ rx (show Ext h2 h4 from aI)
 have cO:aP Tryz.prog l7 [.agg _] h4 (.bool true):=fK (KP.2 hI)▸Ka ok (by omega) rx4
 (repeat' first|refine vs ?_|((with_reducible refine aG l7 ?_);refine aQ cO ?_)|(refine br ?_ ?_<;>first|exact bo|intro _)|((with_reducible refine aG wH ?_);refine aQ (Q5 rx4) ?_)|fail)
 refine aL (adz (w:=x.w) (by omega) aB aB aB fun t ht=>hI.later ht) ?_
 rintro _ h5 ⟨rfl,e5⟩
 have n5:=e5.1
 (repeat' first|refine vs ?_|(refine Tj ?_)|fail)
 refine aX (timers x.w).length (fun i vs h'=>vs=[.int .i64 (i:Int)]∧i≤(timers x.w).length∧Ext h5 h') ⟨rfl,Nat.zero_le _,aI⟩ ?_
 rintro i vs h' _ ⟨rfl,hi,e6⟩
 have n6:=e6.1
 simp only[g0]
 have rt6:ah h' ut (timers x.w) Gt:=aB
 refine eG rt6 ?_
 refine br (fun q=>?_) (fun q=>?_)
 ·obtain⟨t,ht,-,-⟩:=aU (show i < (timers x.w).length by omega)
  obtain⟨u,hu,us,ua⟩:=hR.ti.find hI (List.mem_of_getElem? ht)
  have cF:∀ {h0:AH} {F:List Nat},ah h0 v1 x.st F→bq Tryz.prog Et [v1,.int .i64 t.trace] h0 (Am Trail h0 u true):=fun{h0 F} r=>by
   have k:=aaL (id:=t.trace) (by omega) r
   rw[show dY x.st t.trace=u by unfold dY;rw[hu];rfl,show fH x.st t.trace=true by unfold fH;rw[hu];rfl] at k
   exact k
  (repeat' first|refine vs0 ?_|((with_reducible refine bB ?_);((refine ix ?_);rintro _ _ _ _ _ ⟨rfl,rfl⟩ _))|fail)
  refine aL (cF (F:=F1) aB) ?_
  rintro _ h7 ⟨e7,_,Gu,rfl,⟨vu,rfl,ru⟩,ou⟩
  have n7:=e7.1;(try simp only[aJ,aN] at n7)
  ((with_reducible refine iN ?_);refine iM aO ?_)
  refine vs ?_
  refine fresh (h0:=h') (b:=h'.n) (cs:=[.int .i64 u.id,.int .i64 u.stamp,.int .i64 u.first,vu]) aI aO ?_
  rintro h9 e9 b9
  have n9:=e9.1
  have lb9:=b9.1
  have rt9:ah h9 ut (timers x.w) Gt:=aB
  (repeat' first|refine vs ?_|(refine br ?_ ?_<;>first|exact bo|intro _)|((with_reducible refine aG yF ?_);refine aQ O1 ?_)|((with_reducible refine bB ?_);((refine ix ?_);rintro _ _ _ _ _ ⟨rfl,rfl⟩ _))|fail)
  all_goals exact⟨by omega,rfl,by omega,aI⟩
 ·(repeat' first|refine vs ?_|fail)
  refine aX (tL x.st).length (fun i vs h8=>∃ a b,vs=[.int .i64 (i:Int),a,b]∧i≤(tL x.st).length∧Ext h' h8) ⟨_,_,rfl,Nat.zero_le _,aI⟩ ?_
  rintro i2 vs h8 _ ⟨a,b,rfl,hi2,e8⟩
  have n8:=e8.1
  simp only[g0]
  have ro8:ah h8 uo (tL x.st) Go_:=aB
  have rt8:ah h8 ut (timers x.w) Gt:=aB
  have rx8:Cel.rep h8 x _ _:=jJ rx (show Ext h2 h8 from aI)
  refine eG ro8 ?_
  refine br (fun q2=>?_) (fun q2=>?_)
  ·obtain⟨u,hu,-,-⟩:=aU (show i2 < (tL x.st).length by omega)
   have hth:=hR.ti.there (List.mem_of_getElem? hu)
   obtain⟨bs,hbs⟩:∃ bs:Bool,bs=x.shut:=⟨_,rfl⟩
   have cT:aP Tryz.prog wH [.agg [AV.int .i64 x.c.dK,AV.int .i64 x.c.wait,AV.int .i64 x.c.budget,AV.int .i64 x.c.cache,AV.int .i64 x.c.queue,AV.int .i64 x.c.rate,AV.int .i64 x.c.aZ,AV.int .i64 x.c.rule.kind,AV.int .i64 x.c.rule.n,AV.str x.c.rule.key,AV.str x.c.rule.text,v0,AV.int .i64 x.time,AV.bool x.shut,v1,AV.int .i64 x.bg,AV.int .i64 x.b.rate,AV.int .i64 x.b.aZ,AV.int .i64 x.b.tokens,AV.int .i64 x.b.at_,v2,AV.int .i64 x.used,AV.int .i64 x.w.now,v3,v4,v5,v6,v7,v8,v9,v10,AV.int .i64 x.next]] h8 (.int .i64 x.w.now):=Q5 rx8
   rw[←hbs] at bk hth cT
   (repeat' first|refine vs0 ?_|((with_reducible refine aG wH ?_);refine aQ cT ?_)|((with_reducible refine aG yF ?_);refine aQ O1 ?_)|((with_reducible refine bB ?_);((refine ix ?_);rintro _ _ _ _ _ ⟨_,rfl,_⟩ _))|fail)
   refine br (fun q3=>?_) (fun q3=>?_)
   ·(repeat' first|refine vs0 ?_|refine gS ?_|fail)
    refine found rt8 ro8 hu (.inl rfl) fun k=>?_
    (repeat' first|refine vs ?_|refine gS ?_|fail)
    all_goals exact⟨by omega,_,_,rfl,by omega,aI⟩
   ·(repeat' first|refine vs0 ?_|refine gS ?_|fail)
    refine found rt8 ro8 hu (hth.imp (fun p=>p.resolve_left q3) id) fun k=>?_
    (repeat' first|refine vs ?_|refine gS ?_|fail)
    all_goals exact⟨by omega,_,_,rfl,by omega,aI⟩
  ·(repeat' first|refine vs ?_|fail)
   all_goals exact pb rfl
end Go.Proofs.YtcgjihfngdhjjaaGreat
