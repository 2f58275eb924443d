import Derived.Test.YtekfdoknfcedpaaGreatDKM
set_option linter.unusedSimpArgs false
set_option linter.unusedVariables false
set_option maxHeartbeats 8000000
namespace Go.Proofs.YtekfdoknfcedpaaGreat
open Go Go.Ab
section
def MU (x0 x1:AV):Prog:=.op (.box x0) fun a=>.op (.fad 0 a) fun b=>Ld 12 b fun b=>Cl Iz [b,x1] fun b=>Lg 14 a fun c=>Cl GU [c,b] fun b=>Lg 20 a fun c=>Cl GN [c,b] fun b=>.op (.fad 22 a) fun c=>Ld 4 c fun c=>Cl HY [c,b] fun b=>Lg 26 a fun c=>Cl sS [c,b] fun b=>Lg 27 a fun c=>Cl sZ [c,b] fun b=>Lg 28 a fun c=>Cl sZ [c,b] fun b=>Lg 29 a fun c=>Cl HZ [c,b] fun b=>Lg 30 a fun a=>Cl H6 [a,b] fun a=>.fin [.val a]
theorem acn (x0 x1:AV):CC Tryz.prog zX [x0,x1] (MU x0 x1):=cc Tryz.func11
def MW (x0 x1:AV):Prog:=.op (.box x0) fun a=>.op (.fad 0 a) fun b=>Ld 12 b fun b=>Cl IB [b,x1] fun b=>Bn .lss b (.int .i64 0) fun c=>.ite c (.fin [.val (.int .i64 (-1))]) (Lg 14 a fun c=>Cl GV [c,b] fun b=>Bn .lss b (.int .i64 0) fun c=>.ite c (.fin [.val (.int .i64 (-1))]) (Lg 20 a fun c=>Cl GQ [c,b] fun b=>Bn .lss b (.int .i64 0) fun c=>.ite c (.fin [.val (.int .i64 (-1))]) (.op (.fad 22 a) fun c=>Ld 4 c fun c=>Cl H7 [c,b] fun b=>Bn .lss b (.int .i64 0) fun c=>.ite c (.fin [.val (.int .i64 (-1))]) (Lg 26 a fun c=>Cl sU [c,b] fun b=>Bn .lss b (.int .i64 0) fun c=>.ite c (.fin [.val (.int .i64 (-1))]) (Lg 27 a fun c=>Cl tq [c,b] fun b=>Bn .lss b (.int .i64 0) fun c=>.ite c (.fin [.val (.int .i64 (-1))]) (Lg 28 a fun c=>Cl tq [c,b] fun b=>Bn .lss b (.int .i64 0) fun c=>.ite c (.fin [.val (.int .i64 (-1))]) (Lg 29 a fun c=>Cl H8 [c,b] fun b=>Bn .lss b (.int .i64 0) fun c=>.ite c (.fin [.val (.int .i64 (-1))]) (Lg 30 a fun a=>Cl H9 [a,b] fun a=>Bn .lss a (.int .i64 0) fun b=>.ite b (.fin [.val (.int .i64 (-1))]) (.fin [.val a])))))))))
theorem acw (x0 x1:AV):CC Tryz.prog zZ [x0,x1] (MW x0 x1):=cc Tryz.func12
end
section
variable(m:Int) (x:Wld)
def wm0:Int:=(mks (m) x.c.rule.l).2
def wm1:Int:=(mks (wm0 m x) x.st).2
def wm2:Int:=(mks (wm1 m x) x.cache).2
def wm3:Int:=(iD (wm2 m x) x.w).2
def wm6:Int:=(mks (wm3 m x) x.due).2
def wm7:Int:=(mks (wm6 m x) x.queue).2
def wm8:Int:=(mks (wm7 m x) x.out).2
def wm9:Int:=(mks (wm8 m x) x.tasks).2
def nM:Int:=(mks (wm9 m x) x.aH).2
def Uz:Wld:=⟨⟨x.c.bZ,x.c.wait,x.c.budget,x.c.cache,x.c.queue,x.c.rate,x.c.aW,.mk x.c.rule.kind x.c.rule.n x.c.rule.key x.c.rule.text (mks m x.c.rule.l).1⟩,x.time,x.shut,(mks (wm0 m x) x.st).1,x.bH,x.b,(mks (wm1 m x) x.cache).1,x.used,(iD (wm2 m x) x.w).1,(mks (wm3 m x) x.due).1,(mks (wm6 m x) x.queue).1,(mks (wm7 m x) x.out).1,(mks (wm8 m x) x.tasks).1,(mks (wm9 m x) x.aH).1,x.next⟩
def uQ:Int:=nM m x
end
theorem SA (m:Int) (x:Wld):uQ m x≤m+32 * (Sz.sz x:Nat):=by
 have hs:Sz.sz x=(x.c.rule.key.size+x.c.rule.text.size+(x.c.rule.l.length+szs x.c.rule.l))+(x.st.length+szs x.st)+(x.cache.length+szs x.cache)+((x.w.near.length+szs x.w.near)+(x.w.far.length+szs x.w.far)+(x.w.rest.length+szs x.w.rest))+(x.due.length+szs x.due)+(x.queue.length+szs x.queue)+(x.out.length+szs x.out)+(x.tasks.length+szs x.tasks)+(x.aH.length+szs x.aH):=by rw[←Pol.nJ];rfl
 have c0:wm0 m x≤_:=fJ x.c.rule.l m
 have c1:wm1 m x≤_:=fJ x.st (wm0 m x)
 have c2:wm2 m x≤_:=fJ x.cache (wm1 m x)
 have c6:wm6 m x≤_:=fJ x.due (wm3 m x)
 have c7:wm7 m x≤_:=fJ x.queue (wm6 m x)
 have c8:wm8 m x≤_:=fJ x.out (wm7 m x)
 have c9:wm9 m x≤_:=fJ x.tasks (wm8 m x)
 have c10:nM m x≤_:=fJ x.aH (wm9 m x)
 have c3:(mks (wm2 m x) x.w.near).2≤_:=fJ x.w.near (wm2 m x)
 have c4:(mks (mks (wm2 m x) x.w.near).2 x.w.far).2≤_:=fJ x.w.far (mks (wm2 m x) x.w.near).2
 have c5:wm3 m x≤_:=fJ x.w.rest (mks (mks (wm2 m x) x.w.near).2 x.w.far).2
 show nM m x≤_
 omega
theorem RQ (m:Int) (x:Wld):m≤uQ m x:=by
 have u0:=cu x.c.rule.l m
 have u1:=cu x.st (wm0 m x)
 have u2:=cu x.cache (wm1 m x)
 have u3:=JF (wm2 m x) x.w
 have u6:=cu x.due (wm3 m x)
 have u7:=cu x.queue (wm6 m x)
 have u8:=cu x.out (wm7 m x)
 have u9:=cu x.tasks (wm8 m x)
 have u10:=cu x.aH (wm9 m x)
 have g0:(mks m x.c.rule.l).2=wm0 m x:=rfl
 have g1:(mks (wm0 m x) x.st).2=wm1 m x:=rfl
 have g2:(mks (wm1 m x) x.cache).2=wm2 m x:=rfl
 have g3:(iD (wm2 m x) x.w).2=wm3 m x:=rfl
 have g6:(mks (wm3 m x) x.due).2=wm6 m x:=rfl
 have g7:(mks (wm6 m x) x.queue).2=wm7 m x:=rfl
 have g8:(mks (wm7 m x) x.out).2=wm8 m x:=rfl
 have g9:(mks (wm8 m x) x.tasks).2=wm9 m x:=rfl
 have g10:(mks (wm9 m x) x.aH).2=nM m x:=rfl
 show m≤nM m x
 omega
theorem Mx {x:Wld} {cs:List AV} {F:List Nat} {n:Nat} {m:Int} {h:AH} (r:Cel.rep h x cs F) (o:Own n h F) (h0:0≤m) (h1:uQ m x≤1099511627776):
  cZ Tryz.prog zX [.agg cs,.int .i64 m] h fun r h'=>r= .int .i64 (uQ m x)∧Kp h h' F∧Cel.rep h' (Uz m x) cs F∧Own n h' F:=by
 obtain⟨v0,v1,v2,v3,v4,v5,v6,v7,v8,v9,v10,F0,F1,F2,F3,F4,F5,F6,F7,F8,F9,F10,rfl,rfl,r0,r1,r2,r3,r4,r5,r6,r7,r8,r9,r10⟩:=r
 have u0:=cu x.c.rule.l m
 have u1:=cu x.st (wm0 m x)
 have u2:=cu x.cache (wm1 m x)
 have u3:=JF (wm2 m x) x.w
 have u6:=cu x.due (wm3 m x)
 have u7:=cu x.queue (wm6 m x)
 have u8:=cu x.out (wm7 m x)
 have u9:=cu x.tasks (wm8 m x)
 have u10:=cu x.aH (wm9 m x)
 have g0:(mks m x.c.rule.l).2=wm0 m x:=rfl
 have g1:(mks (wm0 m x) x.st).2=wm1 m x:=rfl
 have g2:(mks (wm1 m x) x.cache).2=wm2 m x:=rfl
 have g3:(iD (wm2 m x) x.w).2=wm3 m x:=rfl
 have g6:(mks (wm3 m x) x.due).2=wm6 m x:=rfl
 have g7:(mks (wm6 m x) x.queue).2=wm7 m x:=rfl
 have g8:(mks (wm7 m x) x.out).2=wm8 m x:=rfl
 have g9:(mks (wm8 m x) x.tasks).2=wm9 m x:=rfl
 have g10:(mks (wm9 m x) x.aH).2=nM m x:=rfl
 have hm:nM m x≤1099511627776:=h1
 have o0:=eu (o)
 have d0:=fC (o)
 have o1:=eu (aS (o))
 have d1:=fC (aS (o))
 have o2:=eu (aS (aS (o)))
 have d2:=fC (aS (aS (o)))
 have o3:=eu (aS (aS (aS (o))))
 have d3:=fC (aS (aS (aS (o))))
 have o4:=eu (aS (aS (aS (aS (o)))))
 have d4:=fC (aS (aS (aS (aS (o)))))
 have o5:=eu (aS (aS (aS (aS (aS (o))))))
 have d5:=fC (aS (aS (aS (aS (aS (o))))))
 have o6:=eu (aS (aS (aS (aS (aS (aS (o)))))))
 have d6:=fC (aS (aS (aS (aS (aS (aS (o)))))))
 have o7:=eu (aS (aS (aS (aS (aS (aS (aS (o))))))))
 have d7:=fC (aS (aS (aS (aS (aS (aS (aS (o))))))))
 have o8:=eu (aS (aS (aS (aS (aS (aS (aS (aS (o)))))))))
 have d8:=fC (aS (aS (aS (aS (aS (aS (aS (aS (o)))))))))
 have o9:=eu (aS (aS (aS (aS (aS (aS (aS (aS (aS (o))))))))))
 have d9:=fC (aS (aS (aS (aS (aS (aS (aS (aS (aS (o))))))))))
 have o10:=aS (aS (aS (aS (aS (aS (aS (aS (aS (aS (o))))))))))
 have Y4:∀ c∈F0,c ∉ F1:=bY (d0)
 have YU:∀ c∈F1,c ∉ F0:=fun c a b=>Y4 c b a
 have Y3:∀ c∈F0,c ∉ F2:=bY (aM (d0))
 have YL:∀ c∈F2,c ∉ F0:=fun c a b=>Y3 c b a
 have Y2:∀ c∈F0,c ∉ F3:=bY (aM (aM (d0)))
 have YC:∀ c∈F3,c ∉ F0:=fun c a b=>Y2 c b a
 have Y1:∀ c∈F0,c ∉ F4:=bY (aM (aM (aM (d0))))
 have Yt:∀ c∈F4,c ∉ F0:=fun c a b=>Y1 c b a
 have Y0:∀ c∈F0,c ∉ F5:=bY (aM (aM (aM (aM (d0)))))
 have Yk:∀ c∈F5,c ∉ F0:=fun c a b=>Y0 c b a
 have YZ:∀ c∈F0,c ∉ F6:=bY (aM (aM (aM (aM (aM (d0))))))
 have Gx:∀ c∈F6,c ∉ F0:=fun c a b=>YZ c b a
 have YX:∀ c∈F0,c ∉ F7:=bY (aM (aM (aM (aM (aM (aM (d0)))))))
 have Gv:∀ c∈F7,c ∉ F0:=fun c a b=>YX c b a
 have YW:∀ c∈F0,c ∉ F8:=bY (aM (aM (aM (aM (aM (aM (aM (d0))))))))
 have XY:∀ c∈F8,c ∉ F0:=fun c a b=>YW c b a
 have YV:∀ c∈F0,c ∉ F9:=bY (aM (aM (aM (aM (aM (aM (aM (aM (d0)))))))))
 have XM:∀ c∈F9,c ∉ F0:=fun c a b=>YV c b a
 have WL:∀ c∈F0,c ∉ F10:=aM (aM (aM (aM (aM (aM (aM (aM (aM (d0)))))))))
 have WK:∀ c∈F10,c ∉ F0:=fun c a b=>WL c b a
 have YT:∀ c∈F1,c ∉ F2:=bY (d1)
 have YK:∀ c∈F2,c ∉ F1:=fun c a b=>YT c b a
 have YS:∀ c∈F1,c ∉ F3:=bY (aM (d1))
 have YB:∀ c∈F3,c ∉ F1:=fun c a b=>YS c b a
 have YR:∀ c∈F1,c ∉ F4:=bY (aM (aM (d1)))
 have Yr:∀ c∈F4,c ∉ F1:=fun c a b=>YR c b a
 have YQ:∀ c∈F1,c ∉ F5:=bY (aM (aM (aM (d1))))
 have Yj:∀ c∈F5,c ∉ F1:=fun c a b=>YQ c b a
 have YP:∀ c∈F1,c ∉ F6:=bY (aM (aM (aM (aM (d1)))))
 have Yd:∀ c∈F6,c ∉ F1:=fun c a b=>YP c b a
 have YO:∀ c∈F1,c ∉ F7:=bY (aM (aM (aM (aM (aM (d1))))))
 have X7:∀ c∈F7,c ∉ F1:=fun c a b=>YO c b a
 have YN:∀ c∈F1,c ∉ F8:=bY (aM (aM (aM (aM (aM (aM (d1)))))))
 have XW:∀ c∈F8,c ∉ F1:=fun c a b=>YN c b a
 have YM:∀ c∈F1,c ∉ F9:=bY (aM (aM (aM (aM (aM (aM (aM (d1))))))))
 have XL:∀ c∈F9,c ∉ F1:=fun c a b=>YM c b a
 have Wx:∀ c∈F1,c ∉ F10:=aM (aM (aM (aM (aM (aM (aM (aM (d1))))))))
 have WJ:∀ c∈F10,c ∉ F1:=fun c a b=>Wx c b a
 have YJ:∀ c∈F2,c ∉ F3:=bY (d2)
 have YA:∀ c∈F3,c ∉ F2:=fun c a b=>YJ c b a
 have YI:∀ c∈F2,c ∉ F4:=bY (aM (d2))
 have Yq:∀ c∈F4,c ∉ F2:=fun c a b=>YI c b a
 have YH:∀ c∈F2,c ∉ F5:=bY (aM (aM (d2)))
 have Yi:∀ c∈F5,c ∉ F2:=fun c a b=>YH c b a
 have YG:∀ c∈F2,c ∉ F6:=bY (aM (aM (aM (d2))))
 have Gw:∀ c∈F6,c ∉ F2:=fun c a b=>YG c b a
 have YF:∀ c∈F2,c ∉ F7:=bY (aM (aM (aM (aM (d2)))))
 have Gu:∀ c∈F7,c ∉ F2:=fun c a b=>YF c b a
 have YE:∀ c∈F2,c ∉ F8:=bY (aM (aM (aM (aM (aM (d2))))))
 have XV:∀ c∈F8,c ∉ F2:=fun c a b=>YE c b a
 have YD:∀ c∈F2,c ∉ F9:=bY (aM (aM (aM (aM (aM (aM (d2)))))))
 have XK:∀ c∈F9,c ∉ F2:=fun c a b=>YD c b a
 have Ww:∀ c∈F2,c ∉ F10:=aM (aM (aM (aM (aM (aM (aM (d2)))))))
 have WH:∀ c∈F10,c ∉ F2:=fun c a b=>Ww c b a
 have Yz:∀ c∈F3,c ∉ F4:=bY (d3)
 have ao2:∀ c∈F4,c ∉ F3:=fun c a b=>Yz c b a
 have Yy:∀ c∈F3,c ∉ F5:=bY (aM (d3))
 have ao1:∀ c∈F5,c ∉ F3:=fun c a b=>Yy c b a
 have Yx:∀ c∈F3,c ∉ F6:=bY (aM (aM (d3)))
 have Yc:∀ c∈F6,c ∉ F3:=fun c a b=>Yx c b a
 have Yw:∀ c∈F3,c ∉ F7:=bY (aM (aM (aM (d3))))
 have X6:∀ c∈F7,c ∉ F3:=fun c a b=>Yw c b a
 have Yv:∀ c∈F3,c ∉ F8:=bY (aM (aM (aM (aM (d3)))))
 have XU:∀ c∈F8,c ∉ F3:=fun c a b=>Yv c b a
 have Yu:∀ c∈F3,c ∉ F9:=bY (aM (aM (aM (aM (aM (d3))))))
 have XJ:∀ c∈F9,c ∉ F3:=fun c a b=>Yu c b a
 have Wv:∀ c∈F3,c ∉ F10:=aM (aM (aM (aM (aM (aM (d3))))))
 have WG:∀ c∈F10,c ∉ F3:=fun c a b=>Wv c b a
 have Yp:∀ c∈F4,c ∉ F5:=bY (d4)
 have ao0:∀ c∈F5,c ∉ F4:=fun c a b=>Yp c b a
 have Yo:∀ c∈F4,c ∉ F6:=bY (aM (d4))
 have zl:∀ c∈F6,c ∉ F4:=fun c a b=>Yo c b a
 have Yn:∀ c∈F4,c ∉ F7:=bY (aM (aM (d4)))
 have X5:∀ c∈F7,c ∉ F4:=fun c a b=>Yn c b a
 have Ym:∀ c∈F4,c ∉ F8:=bY (aM (aM (aM (d4))))
 have XT:∀ c∈F8,c ∉ F4:=fun c a b=>Ym c b a
 have Yl:∀ c∈F4,c ∉ F9:=bY (aM (aM (aM (aM (d4)))))
 have XI:∀ c∈F9,c ∉ F4:=fun c a b=>Yl c b a
 have Wu:∀ c∈F4,c ∉ F10:=aM (aM (aM (aM (aM (d4)))))
 have WE:∀ c∈F10,c ∉ F4:=fun c a b=>Wu c b a
 have Yh:∀ c∈F5,c ∉ F6:=bY (d5)
 have Yb:∀ c∈F6,c ∉ F5:=fun c a b=>Yh c b a
 have Yg:∀ c∈F5,c ∉ F7:=bY (aM (d5))
 have X4:∀ c∈F7,c ∉ F5:=fun c a b=>Yg c b a
 have Yf:∀ c∈F5,c ∉ F8:=bY (aM (aM (d5)))
 have XR:∀ c∈F8,c ∉ F5:=fun c a b=>Yf c b a
 have Ye:∀ c∈F5,c ∉ F9:=bY (aM (aM (aM (d5))))
 have XH:∀ c∈F9,c ∉ F5:=fun c a b=>Ye c b a
 have Wt:∀ c∈F5,c ∉ F10:=aM (aM (aM (aM (d5))))
 have WC:∀ c∈F10,c ∉ F5:=fun c a b=>Wt c b a
 have Ya:∀ c∈F6,c ∉ F7:=bY (d6)
 have X3:∀ c∈F7,c ∉ F6:=fun c a b=>Ya c b a
 have X9:∀ c∈F6,c ∉ F8:=bY (aM (d6))
 have XQ:∀ c∈F8,c ∉ F6:=fun c a b=>X9 c b a
 have X8:∀ c∈F6,c ∉ F9:=bY (aM (aM (d6)))
 have XG:∀ c∈F9,c ∉ F6:=fun c a b=>X8 c b a
 have Ws:∀ c∈F6,c ∉ F10:=aM (aM (aM (d6)))
 have WB:∀ c∈F10,c ∉ F6:=fun c a b=>Ws c b a
 have X0:∀ c∈F7,c ∉ F8:=bY (d7)
 have XP:∀ c∈F8,c ∉ F7:=fun c a b=>X0 c b a
 have XZ:∀ c∈F7,c ∉ F9:=bY (aM (d7))
 have XF:∀ c∈F9,c ∉ F7:=fun c a b=>XZ c b a
 have Wq:∀ c∈F7,c ∉ F10:=aM (aM (d7))
 have WA:∀ c∈F10,c ∉ F7:=fun c a b=>Wq c b a
 have XO:∀ c∈F8,c ∉ F9:=bY (d8)
 have XE:∀ c∈F9,c ∉ F8:=fun c a b=>XO c b a
 have Wp:∀ c∈F8,c ∉ F10:=aM (d8)
 have Wz:∀ c∈F10,c ∉ F8:=fun c a b=>Wp c b a
 have Wo:∀ c∈F9,c ∉ F10:=d9
 have Wy:∀ c∈F10,c ∉ F9:=fun c a b=>Wo c b a
 clear d0 d1 d2 d3 d4 d5 d6 d7 d8 d9
 refine acn _ _ ?_
 unfold MU
 refine kV rfl ?_
 obtain⟨H,hH⟩:∃ H,H=h.push ⟨x.cs v0 v1 v2 v3 v4 v5 v6 v7 v8 v9 v10,0,0⟩:=⟨_,rfl⟩
 rw[←hH]
 have e:Ext h H:=by rw[hH];exact(Ext.refl h).push _
 have b:Bk H h.n (x.cs v0 v1 v2 v3 v4 v5 v6 v7 v8 v9 v10) 0:=by rw[hH];exact iE
 have K:Kp h H (F0++(F1++(F2++(F3++(F4++(F5++(F6++(F7++(F8++(F9++F10)))))))))):=Kp.jm e
 have lt:∀ c∈F0++(F1++(F2++(F3++(F4++(F5++(F6++(F7++(F8++(F9++F10))))))))),c < h.n:=fun c hc=>by
  simp only[List.mem_append] at hc
  rcases hc with g|g|g|g|g|g|g|g|g|g|g
  ·exact r0.lt c g
  ·exact r1.lt c g
  ·exact r2.lt c g
  ·exact r3.lt c g
  ·exact r4.lt c g
  ·exact r5.lt c g
  ·exact r6.lt c g
  ·exact r7.lt c g
  ·exact r8.lt c g
  ·exact r9.lt c g
  ·exact r10.lt c g
 have nb0:h.n ∉ F0:=fun g=>Nat.lt_irrefl _ (r0.lt _ g)
 have nb1:h.n ∉ F1:=fun g=>Nat.lt_irrefl _ (r1.lt _ g)
 have nb2:h.n ∉ F2:=fun g=>Nat.lt_irrefl _ (r2.lt _ g)
 have nb3:h.n ∉ F3:=fun g=>Nat.lt_irrefl _ (r3.lt _ g)
 have nb4:h.n ∉ F4:=fun g=>Nat.lt_irrefl _ (r4.lt _ g)
 have nb5:h.n ∉ F5:=fun g=>Nat.lt_irrefl _ (r5.lt _ g)
 have nb6:h.n ∉ F6:=fun g=>Nat.lt_irrefl _ (r6.lt _ g)
 have nb7:h.n ∉ F7:=fun g=>Nat.lt_irrefl _ (r7.lt _ g)
 have nb8:h.n ∉ F8:=fun g=>Nat.lt_irrefl _ (r8.lt _ g)
 have nb9:h.n ∉ F9:=fun g=>Nat.lt_irrefl _ (r9.lt _ g)
 have anu:h.n ∉ F10:=fun g=>Nat.lt_irrefl _ (r10.lt _ g)
 have OO:=o.ext e lt
 have LT:∀ c∈F0++(F1++(F2++(F3++(F4++(F5++(F6++(F7++(F8++(F9++F10))))))))),c < H.n:=fun c hc=>Nat.lt_of_lt_of_le (lt c hc) e.1
 replace o0:=o0.ext e r0.lt
 replace r0:=r0.ext e
 replace o1:=o1.ext e r1.lt
 replace r1:=r1.ext e
 replace o2:=o2.ext e r2.lt
 replace r2:=r2.ext e
 replace o3:=o3.ext e r3.lt
 replace r3:=r3.ext e
 replace o4:=o4.ext e r4.lt
 replace r4:=r4.ext e
 replace o5:=o5.ext e r5.lt
 replace r5:=r5.ext e
 replace o6:=o6.ext e r6.lt
 replace r6:=r6.ext e
 replace o7:=o7.ext e r7.lt
 replace r7:=r7.ext e
 replace o8:=o8.ext e r8.lt
 replace r8:=r8.ext e
 replace o9:=o9.ext e r9.lt
 replace r9:=r9.ext e
 replace o10:=o10.ext e r10.lt
 replace r10:=r10.ext e
 clear e hH
 (repeat' first|refine vs ?_|fail)
 refine aT (adf (x:=x.c) r0 o0 h0 (by omega)) ?_
 rintro _ h2 ⟨rfl,k1,r0,p0⟩
 replace OO:=j3 OO LT k1 p0
 replace LT:∀ c∈F0++(F1++(F2++(F3++(F4++(F5++(F6++(F7++(F8++(F9++F10))))))))),c < h2.n:=fun c hc=>Nat.lt_of_lt_of_le (LT c hc) k1.1
 replace o1:=(bC k1 ⟨o1,r1.lt⟩ (YU)).1
 replace r1:=aI k1 r1 (YU)
 replace o2:=(bC k1 ⟨o2,r2.lt⟩ (YL)).1
 replace r2:=aI k1 r2 (YL)
 replace o3:=(bC k1 ⟨o3,r3.lt⟩ (YC)).1
 replace r3:=aI k1 r3 (YC)
 replace o4:=(bC k1 ⟨o4,r4.lt⟩ (Yt)).1
 replace r4:=aI k1 r4 (Yt)
 replace o5:=(bC k1 ⟨o5,r5.lt⟩ (Yk)).1
 replace r5:=aI k1 r5 (Yk)
 replace o6:=(bC k1 ⟨o6,r6.lt⟩ (Gx)).1
 replace r6:=aI k1 r6 (Gx)
 replace o7:=(bC k1 ⟨o7,r7.lt⟩ (Gv)).1
 replace r7:=aI k1 r7 (Gv)
 replace o8:=(bC k1 ⟨o8,r8.lt⟩ (XY)).1
 replace r8:=aI k1 r8 (XY)
 replace o9:=(bC k1 ⟨o9,r9.lt⟩ (XM)).1
 replace r9:=aI k1 r9 (XM)
 replace o10:=(bC k1 ⟨o10,r10.lt⟩ (WK)).1
 replace r10:=aI k1 r10 (WK)
 replace b:=bR k1 b nb0
 replace K:=K.trans (k1.mono fun c hc=>by simp[hc])
 clear k1
 (repeat' first|refine vs ?_|((with_reducible refine aJ ?_);simp only[g0,g1,g2]))
 refine aT (aac _ _ F1 n (wm0 m x) _ r1 o1 (by omega) (by omega)) ?_
 rintro _ h3 ⟨rfl,k1,r1,p1⟩
 replace OO:=j3 OO LT k1 p1
 replace LT:∀ c∈F0++(F1++(F2++(F3++(F4++(F5++(F6++(F7++(F8++(F9++F10))))))))),c < h3.n:=fun c hc=>Nat.lt_of_lt_of_le (LT c hc) k1.1
 replace r0:=aI k1 r0 (Y4)
 replace o2:=(bC k1 ⟨o2,r2.lt⟩ (YK)).1
 replace r2:=aI k1 r2 (YK)
 replace o3:=(bC k1 ⟨o3,r3.lt⟩ (YB)).1
 replace r3:=aI k1 r3 (YB)
 replace o4:=(bC k1 ⟨o4,r4.lt⟩ (Yr)).1
 replace r4:=aI k1 r4 (Yr)
 replace o5:=(bC k1 ⟨o5,r5.lt⟩ (Yj)).1
 replace r5:=aI k1 r5 (Yj)
 replace o6:=(bC k1 ⟨o6,r6.lt⟩ (Yd)).1
 replace r6:=aI k1 r6 (Yd)
 replace o7:=(bC k1 ⟨o7,r7.lt⟩ (X7)).1
 replace r7:=aI k1 r7 (X7)
 replace o8:=(bC k1 ⟨o8,r8.lt⟩ (XW)).1
 replace r8:=aI k1 r8 (XW)
 replace o9:=(bC k1 ⟨o9,r9.lt⟩ (XL)).1
 replace r9:=aI k1 r9 (XL)
 replace o10:=(bC k1 ⟨o10,r10.lt⟩ (WJ)).1
 replace r10:=aI k1 r10 (WJ)
 replace b:=bR k1 b nb1
 replace K:=K.trans (k1.mono fun c hc=>by simp[hc])
 clear k1
 (repeat' first|refine vs ?_|((with_reducible refine aJ ?_);simp only[g0,g1,g2]))
 refine aT (ZX _ _ F2 n (wm1 m x) _ r2 o2 (by omega) (by omega)) ?_
 rintro _ h4 ⟨rfl,k1,r2,p2⟩
 replace OO:=j3 OO LT k1 p2
 replace LT:∀ c∈F0++(F1++(F2++(F3++(F4++(F5++(F6++(F7++(F8++(F9++F10))))))))),c < h4.n:=fun c hc=>Nat.lt_of_lt_of_le (LT c hc) k1.1
 replace r0:=aI k1 r0 (Y3)
 replace r1:=aI k1 r1 (YT)
 replace o3:=(bC k1 ⟨o3,r3.lt⟩ (YA)).1
 replace r3:=aI k1 r3 (YA)
 replace o4:=(bC k1 ⟨o4,r4.lt⟩ (Yq)).1
 replace r4:=aI k1 r4 (Yq)
 replace o5:=(bC k1 ⟨o5,r5.lt⟩ (Yi)).1
 replace r5:=aI k1 r5 (Yi)
 replace o6:=(bC k1 ⟨o6,r6.lt⟩ (Gw)).1
 replace r6:=aI k1 r6 (Gw)
 replace o7:=(bC k1 ⟨o7,r7.lt⟩ (Gu)).1
 replace r7:=aI k1 r7 (Gu)
 replace o8:=(bC k1 ⟨o8,r8.lt⟩ (XV)).1
 replace r8:=aI k1 r8 (XV)
 replace o9:=(bC k1 ⟨o9,r9.lt⟩ (XK)).1
 replace r9:=aI k1 r9 (XK)
 replace o10:=(bC k1 ⟨o10,r10.lt⟩ (WH)).1
 replace r10:=aI k1 r10 (WH)
 replace b:=bR k1 b nb2
 replace K:=K.trans (k1.mono fun c hc=>by simp[hc])
 clear k1
 (repeat' first|refine vs ?_|((with_reducible refine aJ ?_);simp only[g0,g1,g2]))
 refine aT (abk (x:=x.w) (m:=wm2 m x) r3 r4 r5 (fA o3 (fA o4 o5 (Nat.le_refl _) Yp) (Nat.le_refl _) (dV Yz Yy)) (by omega) (by omega)) ?_
 rintro _ h5 ⟨rfl,k1,r3,r4,r5,p3⟩
 replace OO:=j3 OO LT k1 p3
 replace LT:∀ c∈F0++(F1++(F2++(F3++(F4++(F5++(F6++(F7++(F8++(F9++F10))))))))),c < h5.n:=fun c hc=>Nat.lt_of_lt_of_le (LT c hc) k1.1
 replace r0:=aI k1 r0 (dV Y2 (dV Y1 Y0))
 replace r1:=aI k1 r1 (dV YS (dV YR YQ))
 replace r2:=aI k1 r2 (dV YJ (dV YI YH))
 replace o6:=(bC k1 ⟨o6,r6.lt⟩ (dV Yc (dV zl Yb))).1
 replace r6:=aI k1 r6 (dV Yc (dV zl Yb))
 replace o7:=(bC k1 ⟨o7,r7.lt⟩ (dV X6 (dV X5 X4))).1
 replace r7:=aI k1 r7 (dV X6 (dV X5 X4))
 replace o8:=(bC k1 ⟨o8,r8.lt⟩ (dV XU (dV XT XR))).1
 replace r8:=aI k1 r8 (dV XU (dV XT XR))
 replace o9:=(bC k1 ⟨o9,r9.lt⟩ (dV XJ (dV XI XH))).1
 replace r9:=aI k1 r9 (dV XJ (dV XI XH))
 replace o10:=(bC k1 ⟨o10,r10.lt⟩ (dV WG (dV WE WC))).1
 replace r10:=aI k1 r10 (dV WG (dV WE WC))
 replace b:=bR k1 b (by simp[nb3,nb4,nb5])
 replace K:=K.trans (k1.mono fun c hc=>by simp only[List.mem_append] at hc ⊢;rcases hc with g|g|g<;>simp[g])
 clear k1
 (repeat' first|refine vs ?_|fail)
 refine aT (GZ _ _ F6 n (wm3 m x) _ r6 o6 (by omega) (by omega)) ?_
 rintro _ h6 ⟨rfl,k1,r6,p6⟩
 replace OO:=j3 OO LT k1 p6
 replace LT:∀ c∈F0++(F1++(F2++(F3++(F4++(F5++(F6++(F7++(F8++(F9++F10))))))))),c < h6.n:=fun c hc=>Nat.lt_of_lt_of_le (LT c hc) k1.1
 replace r0:=aI k1 r0 (YZ)
 replace r1:=aI k1 r1 (YP)
 replace r2:=aI k1 r2 (YG)
 replace r3:=aI k1 r3 (Yx)
 replace r4:=aI k1 r4 (Yo)
 replace r5:=aI k1 r5 (Yh)
 replace o7:=(bC k1 ⟨o7,r7.lt⟩ (X3)).1
 replace r7:=aI k1 r7 (X3)
 replace o8:=(bC k1 ⟨o8,r8.lt⟩ (XQ)).1
 replace r8:=aI k1 r8 (XQ)
 replace o9:=(bC k1 ⟨o9,r9.lt⟩ (XG)).1
 replace r9:=aI k1 r9 (XG)
 replace o10:=(bC k1 ⟨o10,r10.lt⟩ (WB)).1
 replace r10:=aI k1 r10 (WB)
 replace b:=bR k1 b nb6
 replace K:=K.trans (k1.mono fun c hc=>by simp[hc])
 clear k1
 (repeat' first|refine vs ?_|fail)
 refine aT (Hq _ _ F7 n (wm6 m x) _ r7 o7 (by omega) (by omega)) ?_
 rintro _ h7 ⟨rfl,k1,r7,p7⟩
 replace OO:=j3 OO LT k1 p7
 replace LT:∀ c∈F0++(F1++(F2++(F3++(F4++(F5++(F6++(F7++(F8++(F9++F10))))))))),c < h7.n:=fun c hc=>Nat.lt_of_lt_of_le (LT c hc) k1.1
 replace r0:=aI k1 r0 (YX)
 replace r1:=aI k1 r1 (YO)
 replace r2:=aI k1 r2 (YF)
 replace r3:=aI k1 r3 (Yw)
 replace r4:=aI k1 r4 (Yn)
 replace r5:=aI k1 r5 (Yg)
 replace r6:=aI k1 r6 (Ya)
 replace o8:=(bC k1 ⟨o8,r8.lt⟩ (XP)).1
 replace r8:=aI k1 r8 (XP)
 replace o9:=(bC k1 ⟨o9,r9.lt⟩ (XF)).1
 replace r9:=aI k1 r9 (XF)
 replace o10:=(bC k1 ⟨o10,r10.lt⟩ (WA)).1
 replace r10:=aI k1 r10 (WA)
 replace b:=bR k1 b nb7
 replace K:=K.trans (k1.mono fun c hc=>by simp[hc])
 clear k1
 (repeat' first|refine vs ?_|fail)
 refine aT (Hq _ _ F8 n (wm7 m x) _ r8 o8 (by omega) (by omega)) ?_
 rintro _ h8 ⟨rfl,k1,r8,p8⟩
 replace OO:=j3 OO LT k1 p8
 replace LT:∀ c∈F0++(F1++(F2++(F3++(F4++(F5++(F6++(F7++(F8++(F9++F10))))))))),c < h8.n:=fun c hc=>Nat.lt_of_lt_of_le (LT c hc) k1.1
 replace r0:=aI k1 r0 (YW)
 replace r1:=aI k1 r1 (YN)
 replace r2:=aI k1 r2 (YE)
 replace r3:=aI k1 r3 (Yv)
 replace r4:=aI k1 r4 (Ym)
 replace r5:=aI k1 r5 (Yf)
 replace r6:=aI k1 r6 (X9)
 replace r7:=aI k1 r7 (X0)
 replace o9:=(bC k1 ⟨o9,r9.lt⟩ (XE)).1
 replace r9:=aI k1 r9 (XE)
 replace o10:=(bC k1 ⟨o10,r10.lt⟩ (Wz)).1
 replace r10:=aI k1 r10 (Wz)
 replace b:=bR k1 b nb8
 replace K:=K.trans (k1.mono fun c hc=>by simp[hc])
 clear k1
 (repeat' first|refine vs ?_|fail)
 refine aT (abl _ _ F9 n (wm8 m x) _ r9 o9 (by omega) (by omega)) ?_
 rintro _ h9 ⟨rfl,k1,r9,p9⟩
 replace OO:=j3 OO LT k1 p9
 replace LT:∀ c∈F0++(F1++(F2++(F3++(F4++(F5++(F6++(F7++(F8++(F9++F10))))))))),c < h9.n:=fun c hc=>Nat.lt_of_lt_of_le (LT c hc) k1.1
 replace r0:=aI k1 r0 (YV)
 replace r1:=aI k1 r1 (YM)
 replace r2:=aI k1 r2 (YD)
 replace r3:=aI k1 r3 (Yu)
 replace r4:=aI k1 r4 (Yl)
 replace r5:=aI k1 r5 (Ye)
 replace r6:=aI k1 r6 (X8)
 replace r7:=aI k1 r7 (XZ)
 replace r8:=aI k1 r8 (XO)
 replace o10:=(bC k1 ⟨o10,r10.lt⟩ (Wy)).1
 replace r10:=aI k1 r10 (Wy)
 replace b:=bR k1 b nb9
 replace K:=K.trans (k1.mono fun c hc=>by simp[hc])
 clear k1
 (repeat' first|refine vs ?_|fail)
 refine aT (abn _ _ F10 n (wm9 m x) _ r10 o10 (by omega) (by omega)) ?_
 rintro _ h10 ⟨rfl,k1,r10,p10⟩
 replace OO:=j3 OO LT k1 p10
 replace LT:∀ c∈F0++(F1++(F2++(F3++(F4++(F5++(F6++(F7++(F8++(F9++F10))))))))),c < h10.n:=fun c hc=>Nat.lt_of_lt_of_le (LT c hc) k1.1
 replace r0:=aI k1 r0 (WL)
 replace r1:=aI k1 r1 (Wx)
 replace r2:=aI k1 r2 (Ww)
 replace r3:=aI k1 r3 (Wv)
 replace r4:=aI k1 r4 (Wu)
 replace r5:=aI k1 r5 (Wt)
 replace r6:=aI k1 r6 (Ws)
 replace r7:=aI k1 r7 (Wq)
 replace r8:=aI k1 r8 (Wp)
 replace r9:=aI k1 r9 (Wo)
 replace b:=bR k1 b anu
 replace K:=K.trans (k1.mono fun c hc=>by simp[hc])
 clear k1
 (repeat' first|refine vs ?_|fail)
 exact⟨rfl,_,rfl,rfl,K,⟨v0,v1,v2,v3,v4,v5,v6,v7,v8,v9,v10,F0,F1,F2,F3,F4,F5,F6,F7,F8,F9,F10,rfl,rfl,r0,r1,r2,r3,r4,r5,r6,r7,r8,r9,r10⟩,OO⟩
theorem MB {x:Wld} {cs:List AV} {F:List Nat} {m:Int} {h:AH} (r:Cel.rep h (Uz m x) cs F) (h0:0≤m) (h1:uQ m x≤1099511627776):aN Tryz.prog zZ [.agg cs,.int .i64 m] h (.int .i64 (uQ m x)):=by
 obtain⟨v0,v1,v2,v3,v4,v5,v6,v7,v8,v9,v10,F0,F1,F2,F3,F4,F5,F6,F7,F8,F9,F10,rfl,rfl,r0,r1,r2,r3,r4,r5,r6,r7,r8,r9,r10⟩:=r
 have u0:=cu x.c.rule.l m
 have u1:=cu x.st (wm0 m x)
 have u2:=cu x.cache (wm1 m x)
 have u3:=JF (wm2 m x) x.w
 have u6:=cu x.due (wm3 m x)
 have u7:=cu x.queue (wm6 m x)
 have u8:=cu x.out (wm7 m x)
 have u9:=cu x.tasks (wm8 m x)
 have u10:=cu x.aH (wm9 m x)
 have g0:(mks m x.c.rule.l).2=wm0 m x:=rfl
 have g1:(mks (wm0 m x) x.st).2=wm1 m x:=rfl
 have g2:(mks (wm1 m x) x.cache).2=wm2 m x:=rfl
 have g3:(iD (wm2 m x) x.w).2=wm3 m x:=rfl
 have g6:(mks (wm3 m x) x.due).2=wm6 m x:=rfl
 have g7:(mks (wm6 m x) x.queue).2=wm7 m x:=rfl
 have g8:(mks (wm7 m x) x.out).2=wm8 m x:=rfl
 have g9:(mks (wm8 m x) x.tasks).2=wm9 m x:=rfl
 have g10:(mks (wm9 m x) x.aH).2=nM m x:=rfl
 have hm:nM m x≤1099511627776:=h1
 refine reader (acw _ _) (by simp only[old]) ?_
 unfold MW
 (repeat' first|refine vs ?_|fail)
 refine aQ (adh (x:=x.c) (r0.ext ((Ext.refl h).push _)) h0 (by omega)) ?_
 (repeat' first|refine vs ?_|(refine br ?_ ?_<;>first|exact bo|intro _)|((with_reducible refine aJ ?_);simp only[g0,g1,g2]))
 refine aQ (aad x.st v1 F1 (wm0 m x) _ (r1.ext ((Ext.refl h).push _)) (by omega) (by omega)) ?_
 (repeat' first|refine vs ?_|(refine br ?_ ?_<;>first|exact bo|intro _)|((with_reducible refine aJ ?_);simp only[g0,g1,g2]))
 refine aQ (ZY x.cache v2 F2 (wm1 m x) _ (r2.ext ((Ext.refl h).push _)) (by omega) (by omega)) ?_
 (repeat' first|refine vs ?_|(refine br ?_ ?_<;>first|exact bo|intro _)|((with_reducible refine aJ ?_);simp only[g0,g1,g2]))
 refine aQ (abo (x:=x.w) (m:=wm2 m x) (r3.ext ((Ext.refl h).push _)) (r4.ext ((Ext.refl h).push _)) (r5.ext ((Ext.refl h).push _)) (by omega) (by omega)) ?_
 (repeat' first|refine vs ?_|(refine br ?_ ?_<;>first|exact bo|intro _)|fail)
 refine aQ (He x.due v6 F6 (wm3 m x) _ (r6.ext ((Ext.refl h).push _)) (by omega) (by omega)) ?_
 (repeat' first|refine vs ?_|(refine br ?_ ?_<;>first|exact bo|intro _)|fail)
 refine aQ (Hr x.queue v7 F7 (wm6 m x) _ (r7.ext ((Ext.refl h).push _)) (by omega) (by omega)) ?_
 (repeat' first|refine vs ?_|(refine br ?_ ?_<;>first|exact bo|intro _)|fail)
 refine aQ (Hr x.out v8 F8 (wm7 m x) _ (r8.ext ((Ext.refl h).push _)) (by omega) (by omega)) ?_
 (repeat' first|refine vs ?_|(refine br ?_ ?_<;>first|exact bo|intro _)|fail)
 refine aQ (abp x.tasks v9 F9 (wm8 m x) _ (r9.ext ((Ext.refl h).push _)) (by omega) (by omega)) ?_
 (repeat' first|refine vs ?_|(refine br ?_ ?_<;>first|exact bo|intro _)|fail)
 refine aQ (abr x.aH v10 F10 (wm9 m x) _ (r10.ext ((Ext.refl h).push _)) (by omega) (by omega)) ?_
 (repeat' first|refine vs ?_|(refine br ?_ ?_<;>first|exact bo|intro _)|fail)
 exact pi rfl
end Go.Proofs.YtekfdoknfcedpaaGreat
