import Derived.Test.YtekfdoknfcedpaaGreatDKM
set_option linter.unusedSimpArgs false
set_option linter.unusedVariables false
set_option maxHeartbeats 8000000
namespace Go.Proofs.YtekfdoknfcedpaaGreat
open Go Go.Ab
section
def NI (x0 x1:AV):Prog:=.op (.box x0) fun a=>.op (.fad 0 a) fun b=>Ld 12 b fun b=>Cl IW [b,x1] fun b=>Lg 14 a fun c=>Cl Ht [c,b] fun b=>Lg 20 a fun c=>Cl Ho [c,b] fun b=>.op (.fad 22 a) fun c=>Ld 4 c fun c=>Cl Ij [c,b] fun b=>Lg 26 a fun c=>Cl uZ [c,b] fun b=>Lg 27 a fun c=>Cl vB [c,b] fun b=>Lg 28 a fun c=>Cl vB [c,b] fun b=>Lg 29 a fun c=>Cl Ik [c,b] fun b=>Lg 30 a fun a=>Cl Il [a,b] fun a=>.fin [.val a]
theorem acs (x0 x1:AV):CC Tryz.prog BP [x0,x1] (NI x0 x1):=cc Tryz.func11
def NK (x0 x1:AV):Prog:=.op (.box x0) fun a=>.op (.fad 0 a) fun b=>Ld 12 b fun b=>Cl IX [b,x1] fun b=>Bn .lss b (.int .i64 0) fun c=>.ite c (.fin [.val (.int .i64 (-1))]) (Lg 14 a fun c=>Cl Hu [c,b] fun b=>Bn .lss b (.int .i64 0) fun c=>.ite c (.fin [.val (.int .i64 (-1))]) (Lg 20 a fun c=>Cl Hq [c,b] fun b=>Bn .lss b (.int .i64 0) fun c=>.ite c (.fin [.val (.int .i64 (-1))]) (.op (.fad 22 a) fun c=>Ld 4 c fun c=>Cl Im [c,b] fun b=>Bn .lss b (.int .i64 0) fun c=>.ite c (.fin [.val (.int .i64 (-1))]) (Lg 26 a fun c=>Cl vg [c,b] fun b=>Bn .lss b (.int .i64 0) fun c=>.ite c (.fin [.val (.int .i64 (-1))]) (Lg 27 a fun c=>Cl vC [c,b] fun b=>Bn .lss b (.int .i64 0) fun c=>.ite c (.fin [.val (.int .i64 (-1))]) (Lg 28 a fun c=>Cl vC [c,b] fun b=>Bn .lss b (.int .i64 0) fun c=>.ite c (.fin [.val (.int .i64 (-1))]) (Lg 29 a fun c=>Cl Io [c,b] fun b=>Bn .lss b (.int .i64 0) fun c=>.ite c (.fin [.val (.int .i64 (-1))]) (Lg 30 a fun a=>Cl Ip [a,b] fun a=>Bn .lss a (.int .i64 0) fun b=>.ite b (.fin [.val (.int .i64 (-1))]) (.fin [.val a])))))))))
theorem acB (x0 x1:AV):CC Tryz.prog BR [x0,x1] (NK x0 x1):=cc Tryz.func12
end
section
variable(m:Int) (x:Wld)
def wm0:Int:=(mks (m) x.c.rule.l).2
def wm1:Int:=(mks (wm0 m x) x.st).2
def wm2:Int:=(mks (wm1 m x) x.cache).2
def wm3:Int:=(jh (wm2 m x) x.w).2
def wm6:Int:=(mks (wm3 m x) x.due).2
def wm7:Int:=(mks (wm6 m x) x.queue).2
def wm8:Int:=(mks (wm7 m x) x.out).2
def wm9:Int:=(mks (wm8 m x) x.tasks).2
def qj:Int:=(mks (wm9 m x) x.aI).2
def U2:Wld:=⟨⟨x.c.cB,x.c.wait,x.c.budget,x.c.cache,x.c.queue,x.c.rate,x.c.aV,.mk x.c.rule.kind x.c.rule.n x.c.rule.key x.c.rule.text (mks m x.c.rule.l).1⟩,x.time,x.shut,(mks (wm0 m x) x.st).1,x.bQ,x.b,(mks (wm1 m x) x.cache).1,x.used,(jh (wm2 m x) x.w).1,(mks (wm3 m x) x.due).1,(mks (wm6 m x) x.queue).1,(mks (wm7 m x) x.out).1,(mks (wm8 m x) x.tasks).1,(mks (wm9 m x) x.aI).1,x.next⟩
def wN:Int:=qj m x
end
theorem Tk (m:Int) (x:Wld):wN m x≤m+32 * (Sz.sz x:Nat):=by
 have hs:Sz.sz x=(x.c.rule.key.size+x.c.rule.text.size+(x.c.rule.l.length+szs x.c.rule.l))+(x.st.length+szs x.st)+(x.cache.length+szs x.cache)+((x.w.near.length+szs x.w.near)+(x.w.far.length+szs x.w.far)+(x.w.rest.length+szs x.w.rest))+(x.due.length+szs x.due)+(x.queue.length+szs x.queue)+(x.out.length+szs x.out)+(x.tasks.length+szs x.tasks)+(x.aI.length+szs x.aI):=by rw[←Pol.qd];rfl
 have c0:wm0 m x≤_:=gW x.c.rule.l m
 have c1:wm1 m x≤_:=gW x.st (wm0 m x)
 have c2:wm2 m x≤_:=gW x.cache (wm1 m x)
 have c6:wm6 m x≤_:=gW x.due (wm3 m x)
 have c7:wm7 m x≤_:=gW x.queue (wm6 m x)
 have c8:wm8 m x≤_:=gW x.out (wm7 m x)
 have c9:wm9 m x≤_:=gW x.tasks (wm8 m x)
 have c10:qj m x≤_:=gW x.aI (wm9 m x)
 have c3:(mks (wm2 m x) x.w.near).2≤_:=gW x.w.near (wm2 m x)
 have c4:(mks (mks (wm2 m x) x.w.near).2 x.w.far).2≤_:=gW x.w.far (mks (wm2 m x) x.w.near).2
 have c5:wm3 m x≤_:=gW x.w.rest (mks (mks (wm2 m x) x.w.near).2 x.w.far).2
 show qj m x≤_
 omega
theorem SB (m:Int) (x:Wld):m≤wN m x:=by
 have u0:=cK x.c.rule.l m
 have u1:=cK x.st (wm0 m x)
 have u2:=cK x.cache (wm1 m x)
 have u3:=Ka (wm2 m x) x.w
 have u6:=cK x.due (wm3 m x)
 have u7:=cK x.queue (wm6 m x)
 have u8:=cK x.out (wm7 m x)
 have u9:=cK x.tasks (wm8 m x)
 have u10:=cK x.aI (wm9 m x)
 have g0:(mks m x.c.rule.l).2=wm0 m x:=rfl
 have g1:(mks (wm0 m x) x.st).2=wm1 m x:=rfl
 have g2:(mks (wm1 m x) x.cache).2=wm2 m x:=rfl
 have g3:(jh (wm2 m x) x.w).2=wm3 m x:=rfl
 have g6:(mks (wm3 m x) x.due).2=wm6 m x:=rfl
 have g7:(mks (wm6 m x) x.queue).2=wm7 m x:=rfl
 have g8:(mks (wm7 m x) x.out).2=wm8 m x:=rfl
 have g9:(mks (wm8 m x) x.tasks).2=wm9 m x:=rfl
 have g10:(mks (wm9 m x) x.aI).2=qj m x:=rfl
 show m≤qj m x
 omega
theorem Nj {x:Wld} {cs:List AV} {F:List Nat} {n:Nat} {m:Int} {h:AH} (r:Cel.rep h x cs F) (o:Own n h F) (h0:0≤m) (h1:wN m x≤1099511627776):
  bE Tryz.prog BP [.agg cs,.int .i64 m] h fun r h'=>r= .int .i64 (wN m x)∧Kp h h' F∧Cel.rep h' (U2 m x) cs F∧Own n h' F:=by
 obtain⟨v0,v1,v2,v3,v4,v5,v6,v7,v8,v9,v10,F0,F1,F2,F3,F4,F5,F6,F7,F8,F9,F10,rfl,rfl,r0,r1,r2,r3,r4,r5,r6,r7,r8,r9,r10⟩:=r
 have u0:=cK x.c.rule.l m
 have u1:=cK x.st (wm0 m x)
 have u2:=cK x.cache (wm1 m x)
 have u3:=Ka (wm2 m x) x.w
 have u6:=cK x.due (wm3 m x)
 have u7:=cK x.queue (wm6 m x)
 have u8:=cK x.out (wm7 m x)
 have u9:=cK x.tasks (wm8 m x)
 have u10:=cK x.aI (wm9 m x)
 have g0:(mks m x.c.rule.l).2=wm0 m x:=rfl
 have g1:(mks (wm0 m x) x.st).2=wm1 m x:=rfl
 have g2:(mks (wm1 m x) x.cache).2=wm2 m x:=rfl
 have g3:(jh (wm2 m x) x.w).2=wm3 m x:=rfl
 have g6:(mks (wm3 m x) x.due).2=wm6 m x:=rfl
 have g7:(mks (wm6 m x) x.queue).2=wm7 m x:=rfl
 have g8:(mks (wm7 m x) x.out).2=wm8 m x:=rfl
 have g9:(mks (wm8 m x) x.tasks).2=wm9 m x:=rfl
 have g10:(mks (wm9 m x) x.aI).2=qj m x:=rfl
 have hm:qj m x≤1099511627776:=h1
 have o0:=bU (o)
 have d0:=gq (o)
 have o1:=bU (aJ (o))
 have d1:=gq (aJ (o))
 have o2:=bU (aJ (aJ (o)))
 have d2:=gq (aJ (aJ (o)))
 have o3:=bU (aJ (aJ (aJ (o))))
 have d3:=gq (aJ (aJ (aJ (o))))
 have o4:=bU (aJ (aJ (aJ (aJ (o)))))
 have d4:=gq (aJ (aJ (aJ (aJ (o)))))
 have o5:=bU (aJ (aJ (aJ (aJ (aJ (o))))))
 have d5:=gq (aJ (aJ (aJ (aJ (aJ (o))))))
 have o6:=bU (aJ (aJ (aJ (aJ (aJ (aJ (o)))))))
 have d6:=gq (aJ (aJ (aJ (aJ (aJ (aJ (o)))))))
 have o7:=bU (aJ (aJ (aJ (aJ (aJ (aJ (aJ (o))))))))
 have d7:=gq (aJ (aJ (aJ (aJ (aJ (aJ (aJ (o))))))))
 have o8:=bU (aJ (aJ (aJ (aJ (aJ (aJ (aJ (aJ (o)))))))))
 have d8:=gq (aJ (aJ (aJ (aJ (aJ (aJ (aJ (aJ (o)))))))))
 have o9:=bU (aJ (aJ (aJ (aJ (aJ (aJ (aJ (aJ (aJ (o))))))))))
 have d9:=gq (aJ (aJ (aJ (aJ (aJ (aJ (aJ (aJ (aJ (o))))))))))
 have o10:=aJ (aJ (aJ (aJ (aJ (aJ (aJ (aJ (aJ (aJ (o))))))))))
 have Ze:∀ c∈F0,c ∉ F1:=bY (d0)
 have Y5:∀ c∈F1,c ∉ F0:=fun c a b=>Ze c b a
 have Zd:∀ c∈F0,c ∉ F2:=bY (aH (d0))
 have YV:∀ c∈F2,c ∉ F0:=fun c a b=>Zd c b a
 have Zc:∀ c∈F0,c ∉ F3:=bY (aH (aH (d0)))
 have YM:∀ c∈F3,c ∉ F0:=fun c a b=>Zc c b a
 have Zb:∀ c∈F0,c ∉ F4:=bY (aH (aH (aH (d0))))
 have YD:∀ c∈F4,c ∉ F0:=fun c a b=>Zb c b a
 have Za:∀ c∈F0,c ∉ F5:=bY (aH (aH (aH (aH (d0)))))
 have Yv:∀ c∈F5,c ∉ F0:=fun c a b=>Za c b a
 have Y9:∀ c∈F0,c ∉ F6:=bY (aH (aH (aH (aH (aH (d0))))))
 have GR:∀ c∈F6,c ∉ F0:=fun c a b=>Y9 c b a
 have Y8:∀ c∈F0,c ∉ F7:=bY (aH (aH (aH (aH (aH (aH (d0)))))))
 have GN:∀ c∈F7,c ∉ F0:=fun c a b=>Y8 c b a
 have Y7:∀ c∈F0,c ∉ F8:=bY (aH (aH (aH (aH (aH (aH (aH (d0))))))))
 have Ya:∀ c∈F8,c ∉ F0:=fun c a b=>Y7 c b a
 have Y6:∀ c∈F0,c ∉ F9:=bY (aH (aH (aH (aH (aH (aH (aH (aH (d0)))))))))
 have XZ:∀ c∈F9,c ∉ F0:=fun c a b=>Y6 c b a
 have Xm:∀ c∈F0,c ∉ F10:=aH (aH (aH (aH (aH (aH (aH (aH (aH (d0)))))))))
 have Xl:∀ c∈F10,c ∉ F0:=fun c a b=>Xm c b a
 have Y4:∀ c∈F1,c ∉ F2:=bY (d1)
 have YU:∀ c∈F2,c ∉ F1:=fun c a b=>Y4 c b a
 have Y3:∀ c∈F1,c ∉ F3:=bY (aH (d1))
 have YL:∀ c∈F3,c ∉ F1:=fun c a b=>Y3 c b a
 have Y2:∀ c∈F1,c ∉ F4:=bY (aH (aH (d1)))
 have YC:∀ c∈F4,c ∉ F1:=fun c a b=>Y2 c b a
 have Y1:∀ c∈F1,c ∉ F5:=bY (aH (aH (aH (d1))))
 have Yu:∀ c∈F5,c ∉ F1:=fun c a b=>Y1 c b a
 have Y0:∀ c∈F1,c ∉ F6:=bY (aH (aH (aH (aH (d1)))))
 have Yn:∀ c∈F6,c ∉ F1:=fun c a b=>Y0 c b a
 have YZ:∀ c∈F1,c ∉ F7:=bY (aH (aH (aH (aH (aH (d1))))))
 have Yh:∀ c∈F7,c ∉ F1:=fun c a b=>YZ c b a
 have YX:∀ c∈F1,c ∉ F8:=bY (aH (aH (aH (aH (aH (aH (d1)))))))
 have X9:∀ c∈F8,c ∉ F1:=fun c a b=>YX c b a
 have YW:∀ c∈F1,c ∉ F9:=bY (aH (aH (aH (aH (aH (aH (aH (d1))))))))
 have XY:∀ c∈F9,c ∉ F1:=fun c a b=>YW c b a
 have Xb:∀ c∈F1,c ∉ F10:=aH (aH (aH (aH (aH (aH (aH (aH (d1))))))))
 have Xk:∀ c∈F10,c ∉ F1:=fun c a b=>Xb c b a
 have YT:∀ c∈F2,c ∉ F3:=bY (d2)
 have YK:∀ c∈F3,c ∉ F2:=fun c a b=>YT c b a
 have YS:∀ c∈F2,c ∉ F4:=bY (aH (d2))
 have YB:∀ c∈F4,c ∉ F2:=fun c a b=>YS c b a
 have YR:∀ c∈F2,c ∉ F5:=bY (aH (aH (d2)))
 have Yt:∀ c∈F5,c ∉ F2:=fun c a b=>YR c b a
 have YQ:∀ c∈F2,c ∉ F6:=bY (aH (aH (aH (d2))))
 have GQ:∀ c∈F6,c ∉ F2:=fun c a b=>YQ c b a
 have YP:∀ c∈F2,c ∉ F7:=bY (aH (aH (aH (aH (d2)))))
 have GL:∀ c∈F7,c ∉ F2:=fun c a b=>YP c b a
 have YO:∀ c∈F2,c ∉ F8:=bY (aH (aH (aH (aH (aH (d2))))))
 have X8:∀ c∈F8,c ∉ F2:=fun c a b=>YO c b a
 have YN:∀ c∈F2,c ∉ F9:=bY (aH (aH (aH (aH (aH (aH (d2)))))))
 have XW:∀ c∈F9,c ∉ F2:=fun c a b=>YN c b a
 have Xa:∀ c∈F2,c ∉ F10:=aH (aH (aH (aH (aH (aH (aH (d2)))))))
 have Xj:∀ c∈F10,c ∉ F2:=fun c a b=>Xa c b a
 have YJ:∀ c∈F3,c ∉ F4:=bY (d3)
 have aow:∀ c∈F4,c ∉ F3:=fun c a b=>YJ c b a
 have YI:∀ c∈F3,c ∉ F5:=bY (aH (d3))
 have aov:∀ c∈F5,c ∉ F3:=fun c a b=>YI c b a
 have YH:∀ c∈F3,c ∉ F6:=bY (aH (aH (d3)))
 have Ym:∀ c∈F6,c ∉ F3:=fun c a b=>YH c b a
 have YG:∀ c∈F3,c ∉ F7:=bY (aH (aH (aH (d3))))
 have Yg:∀ c∈F7,c ∉ F3:=fun c a b=>YG c b a
 have YF:∀ c∈F3,c ∉ F8:=bY (aH (aH (aH (aH (d3)))))
 have X7:∀ c∈F8,c ∉ F3:=fun c a b=>YF c b a
 have YE:∀ c∈F3,c ∉ F9:=bY (aH (aH (aH (aH (aH (d3))))))
 have XV:∀ c∈F9,c ∉ F3:=fun c a b=>YE c b a
 have WZ:∀ c∈F3,c ∉ F10:=aH (aH (aH (aH (aH (aH (d3))))))
 have Xi:∀ c∈F10,c ∉ F3:=fun c a b=>WZ c b a
 have YA:∀ c∈F4,c ∉ F5:=bY (d4)
 have aou:∀ c∈F5,c ∉ F4:=fun c a b=>YA c b a
 have Yz:∀ c∈F4,c ∉ F6:=bY (aH (d4))
 have A8:∀ c∈F6,c ∉ F4:=fun c a b=>Yz c b a
 have Yy:∀ c∈F4,c ∉ F7:=bY (aH (aH (d4)))
 have Yf:∀ c∈F7,c ∉ F4:=fun c a b=>Yy c b a
 have Yx:∀ c∈F4,c ∉ F8:=bY (aH (aH (aH (d4))))
 have X6:∀ c∈F8,c ∉ F4:=fun c a b=>Yx c b a
 have Yw:∀ c∈F4,c ∉ F9:=bY (aH (aH (aH (aH (d4)))))
 have XU:∀ c∈F9,c ∉ F4:=fun c a b=>Yw c b a
 have WY:∀ c∈F4,c ∉ F10:=aH (aH (aH (aH (aH (d4)))))
 have Xh:∀ c∈F10,c ∉ F4:=fun c a b=>WY c b a
 have Yr:∀ c∈F5,c ∉ F6:=bY (d5)
 have Yl:∀ c∈F6,c ∉ F5:=fun c a b=>Yr c b a
 have Yq:∀ c∈F5,c ∉ F7:=bY (aH (d5))
 have Ye:∀ c∈F7,c ∉ F5:=fun c a b=>Yq c b a
 have Yp:∀ c∈F5,c ∉ F8:=bY (aH (aH (d5)))
 have X5:∀ c∈F8,c ∉ F5:=fun c a b=>Yp c b a
 have Yo:∀ c∈F5,c ∉ F9:=bY (aH (aH (aH (d5))))
 have XT:∀ c∈F9,c ∉ F5:=fun c a b=>Yo c b a
 have WX:∀ c∈F5,c ∉ F10:=aH (aH (aH (aH (d5))))
 have Xg:∀ c∈F10,c ∉ F5:=fun c a b=>WX c b a
 have Yk:∀ c∈F6,c ∉ F7:=bY (d6)
 have Yd:∀ c∈F7,c ∉ F6:=fun c a b=>Yk c b a
 have Yj:∀ c∈F6,c ∉ F8:=bY (aH (d6))
 have X4:∀ c∈F8,c ∉ F6:=fun c a b=>Yj c b a
 have Yi:∀ c∈F6,c ∉ F9:=bY (aH (aH (d6)))
 have XR:∀ c∈F9,c ∉ F6:=fun c a b=>Yi c b a
 have WW:∀ c∈F6,c ∉ F10:=aH (aH (aH (d6)))
 have Xf:∀ c∈F10,c ∉ F6:=fun c a b=>WW c b a
 have Yc:∀ c∈F7,c ∉ F8:=bY (d7)
 have X3:∀ c∈F8,c ∉ F7:=fun c a b=>Yc c b a
 have Yb:∀ c∈F7,c ∉ F9:=bY (aH (d7))
 have XQ:∀ c∈F9,c ∉ F7:=fun c a b=>Yb c b a
 have WU:∀ c∈F7,c ∉ F10:=aH (aH (d7))
 have Xe:∀ c∈F10,c ∉ F7:=fun c a b=>WU c b a
 have X0:∀ c∈F8,c ∉ F9:=bY (d8)
 have XP:∀ c∈F9,c ∉ F8:=fun c a b=>X0 c b a
 have WT:∀ c∈F8,c ∉ F10:=aH (d8)
 have Xd:∀ c∈F10,c ∉ F8:=fun c a b=>WT c b a
 have WQ:∀ c∈F9,c ∉ F10:=d9
 have Xc:∀ c∈F10,c ∉ F9:=fun c a b=>WQ c b a
 clear d0 d1 d2 d3 d4 d5 d6 d7 d8 d9
 refine acs _ _ ?_
 unfold NI
 refine kP rfl ?_
 obtain⟨H,hH⟩:∃ H,H=h.push ⟨x.cs v0 v1 v2 v3 v4 v5 v6 v7 v8 v9 v10,0,0⟩:=⟨_,rfl⟩
 rw[←hH]
 have e:Ext h H:=by rw[hH];exact(Ext.refl h).push _
 have b:Bk H h.n (x.cs v0 v1 v2 v3 v4 v5 v6 v7 v8 v9 v10) 0:=by rw[hH];exact fE
 have K:Kp h H (F0++(F1++(F2++(F3++(F4++(F5++(F6++(F7++(F8++(F9++F10)))))))))):=Kp.gY e
 have lt:∀ c∈F0++(F1++(F2++(F3++(F4++(F5++(F6++(F7++(F8++(F9++F10))))))))),c < h.n:=fun c hc=>by
  simp only[List.mem_append] at hc
  rcases hc with g|g|g|g|g|g|g|g|g|g|g
  ·exact r0.lt c g
  ·exact r1.lt c g
  ·exact r2.lt c g
  ·exact r3.lt c g
  ·exact r4.lt c g
  ·exact r5.lt c g
  ·exact r6.lt c g
  ·exact r7.lt c g
  ·exact r8.lt c g
  ·exact r9.lt c g
  ·exact r10.lt c g
 have nb0:h.n ∉ F0:=fun g=>Nat.lt_irrefl _ (r0.lt _ g)
 have nb1:h.n ∉ F1:=fun g=>Nat.lt_irrefl _ (r1.lt _ g)
 have nb2:h.n ∉ F2:=fun g=>Nat.lt_irrefl _ (r2.lt _ g)
 have nb3:h.n ∉ F3:=fun g=>Nat.lt_irrefl _ (r3.lt _ g)
 have nb4:h.n ∉ F4:=fun g=>Nat.lt_irrefl _ (r4.lt _ g)
 have nb5:h.n ∉ F5:=fun g=>Nat.lt_irrefl _ (r5.lt _ g)
 have nb6:h.n ∉ F6:=fun g=>Nat.lt_irrefl _ (r6.lt _ g)
 have nb7:h.n ∉ F7:=fun g=>Nat.lt_irrefl _ (r7.lt _ g)
 have nb8:h.n ∉ F8:=fun g=>Nat.lt_irrefl _ (r8.lt _ g)
 have nb9:h.n ∉ F9:=fun g=>Nat.lt_irrefl _ (r9.lt _ g)
 have ank:h.n ∉ F10:=fun g=>Nat.lt_irrefl _ (r10.lt _ g)
 have OO:=o.ext e lt
 have LT:∀ c∈F0++(F1++(F2++(F3++(F4++(F5++(F6++(F7++(F8++(F9++F10))))))))),c < H.n:=fun c hc=>Nat.lt_of_lt_of_le (lt c hc) e.1
 replace o0:=o0.ext e r0.lt
 replace r0:=r0.ext e
 replace o1:=o1.ext e r1.lt
 replace r1:=r1.ext e
 replace o2:=o2.ext e r2.lt
 replace r2:=r2.ext e
 replace o3:=o3.ext e r3.lt
 replace r3:=r3.ext e
 replace o4:=o4.ext e r4.lt
 replace r4:=r4.ext e
 replace o5:=o5.ext e r5.lt
 replace r5:=r5.ext e
 replace o6:=o6.ext e r6.lt
 replace r6:=r6.ext e
 replace o7:=o7.ext e r7.lt
 replace r7:=r7.ext e
 replace o8:=o8.ext e r8.lt
 replace r8:=r8.ext e
 replace o9:=o9.ext e r9.lt
 replace r9:=r9.ext e
 replace o10:=o10.ext e r10.lt
 replace r10:=r10.ext e
 clear e hH
 (repeat' first|refine vs ?_|fail)
 refine aG (adn (x:=x.c) r0 o0 h0 (by omega)) ?_
 rintro _ h2 ⟨rfl,k1,r0,p0⟩
 replace OO:=lI OO LT k1 p0
 replace LT:∀ c∈F0++(F1++(F2++(F3++(F4++(F5++(F6++(F7++(F8++(F9++F10))))))))),c < h2.n:=fun c hc=>Nat.lt_of_lt_of_le (LT c hc) k1.1
 replace o1:=(bq k1 ⟨o1,r1.lt⟩ (Y5)).1
 replace r1:=aC k1 r1 (Y5)
 replace o2:=(bq k1 ⟨o2,r2.lt⟩ (YV)).1
 replace r2:=aC k1 r2 (YV)
 replace o3:=(bq k1 ⟨o3,r3.lt⟩ (YM)).1
 replace r3:=aC k1 r3 (YM)
 replace o4:=(bq k1 ⟨o4,r4.lt⟩ (YD)).1
 replace r4:=aC k1 r4 (YD)
 replace o5:=(bq k1 ⟨o5,r5.lt⟩ (Yv)).1
 replace r5:=aC k1 r5 (Yv)
 replace o6:=(bq k1 ⟨o6,r6.lt⟩ (GR)).1
 replace r6:=aC k1 r6 (GR)
 replace o7:=(bq k1 ⟨o7,r7.lt⟩ (GN)).1
 replace r7:=aC k1 r7 (GN)
 replace o8:=(bq k1 ⟨o8,r8.lt⟩ (Ya)).1
 replace r8:=aC k1 r8 (Ya)
 replace o9:=(bq k1 ⟨o9,r9.lt⟩ (XZ)).1
 replace r9:=aC k1 r9 (XZ)
 replace o10:=(bq k1 ⟨o10,r10.lt⟩ (Xl)).1
 replace r10:=aC k1 r10 (Xl)
 replace b:=bJ k1 b nb0
 replace K:=K.trans (k1.mono fun c hc=>by simp[hc])
 clear k1
 (repeat' first|refine vs ?_|((with_reducible refine bF ?_);simp only[g0,g1,g2]))
 refine aG (aag _ _ F1 n (wm0 m x) _ r1 o1 (by omega) (by omega)) ?_
 rintro _ h3 ⟨rfl,k1,r1,p1⟩
 replace OO:=lI OO LT k1 p1
 replace LT:∀ c∈F0++(F1++(F2++(F3++(F4++(F5++(F6++(F7++(F8++(F9++F10))))))))),c < h3.n:=fun c hc=>Nat.lt_of_lt_of_le (LT c hc) k1.1
 replace r0:=aC k1 r0 (Ze)
 replace o2:=(bq k1 ⟨o2,r2.lt⟩ (YU)).1
 replace r2:=aC k1 r2 (YU)
 replace o3:=(bq k1 ⟨o3,r3.lt⟩ (YL)).1
 replace r3:=aC k1 r3 (YL)
 replace o4:=(bq k1 ⟨o4,r4.lt⟩ (YC)).1
 replace r4:=aC k1 r4 (YC)
 replace o5:=(bq k1 ⟨o5,r5.lt⟩ (Yu)).1
 replace r5:=aC k1 r5 (Yu)
 replace o6:=(bq k1 ⟨o6,r6.lt⟩ (Yn)).1
 replace r6:=aC k1 r6 (Yn)
 replace o7:=(bq k1 ⟨o7,r7.lt⟩ (Yh)).1
 replace r7:=aC k1 r7 (Yh)
 replace o8:=(bq k1 ⟨o8,r8.lt⟩ (X9)).1
 replace r8:=aC k1 r8 (X9)
 replace o9:=(bq k1 ⟨o9,r9.lt⟩ (XY)).1
 replace r9:=aC k1 r9 (XY)
 replace o10:=(bq k1 ⟨o10,r10.lt⟩ (Xk)).1
 replace r10:=aC k1 r10 (Xk)
 replace b:=bJ k1 b nb1
 replace K:=K.trans (k1.mono fun c hc=>by simp[hc])
 clear k1
 (repeat' first|refine vs ?_|((with_reducible refine bF ?_);simp only[g0,g1,g2]))
 refine aG (Z5 _ _ F2 n (wm1 m x) _ r2 o2 (by omega) (by omega)) ?_
 rintro _ h4 ⟨rfl,k1,r2,p2⟩
 replace OO:=lI OO LT k1 p2
 replace LT:∀ c∈F0++(F1++(F2++(F3++(F4++(F5++(F6++(F7++(F8++(F9++F10))))))))),c < h4.n:=fun c hc=>Nat.lt_of_lt_of_le (LT c hc) k1.1
 replace r0:=aC k1 r0 (Zd)
 replace r1:=aC k1 r1 (Y4)
 replace o3:=(bq k1 ⟨o3,r3.lt⟩ (YK)).1
 replace r3:=aC k1 r3 (YK)
 replace o4:=(bq k1 ⟨o4,r4.lt⟩ (YB)).1
 replace r4:=aC k1 r4 (YB)
 replace o5:=(bq k1 ⟨o5,r5.lt⟩ (Yt)).1
 replace r5:=aC k1 r5 (Yt)
 replace o6:=(bq k1 ⟨o6,r6.lt⟩ (GQ)).1
 replace r6:=aC k1 r6 (GQ)
 replace o7:=(bq k1 ⟨o7,r7.lt⟩ (GL)).1
 replace r7:=aC k1 r7 (GL)
 replace o8:=(bq k1 ⟨o8,r8.lt⟩ (X8)).1
 replace r8:=aC k1 r8 (X8)
 replace o9:=(bq k1 ⟨o9,r9.lt⟩ (XW)).1
 replace r9:=aC k1 r9 (XW)
 replace o10:=(bq k1 ⟨o10,r10.lt⟩ (Xj)).1
 replace r10:=aC k1 r10 (Xj)
 replace b:=bJ k1 b nb2
 replace K:=K.trans (k1.mono fun c hc=>by simp[hc])
 clear k1
 (repeat' first|refine vs ?_|((with_reducible refine bF ?_);simp only[g0,g1,g2]))
 refine aG (abo (x:=x.w) (m:=wm2 m x) r3 r4 r5 (gH o3 (gH o4 o5 (Nat.le_refl _) YA) (Nat.le_refl _) (fC YJ YI)) (by omega) (by omega)) ?_
 rintro _ h5 ⟨rfl,k1,r3,r4,r5,p3⟩
 replace OO:=lI OO LT k1 p3
 replace LT:∀ c∈F0++(F1++(F2++(F3++(F4++(F5++(F6++(F7++(F8++(F9++F10))))))))),c < h5.n:=fun c hc=>Nat.lt_of_lt_of_le (LT c hc) k1.1
 replace r0:=aC k1 r0 (fC Zc (fC Zb Za))
 replace r1:=aC k1 r1 (fC Y3 (fC Y2 Y1))
 replace r2:=aC k1 r2 (fC YT (fC YS YR))
 replace o6:=(bq k1 ⟨o6,r6.lt⟩ (fC Ym (fC A8 Yl))).1
 replace r6:=aC k1 r6 (fC Ym (fC A8 Yl))
 replace o7:=(bq k1 ⟨o7,r7.lt⟩ (fC Yg (fC Yf Ye))).1
 replace r7:=aC k1 r7 (fC Yg (fC Yf Ye))
 replace o8:=(bq k1 ⟨o8,r8.lt⟩ (fC X7 (fC X6 X5))).1
 replace r8:=aC k1 r8 (fC X7 (fC X6 X5))
 replace o9:=(bq k1 ⟨o9,r9.lt⟩ (fC XV (fC XU XT))).1
 replace r9:=aC k1 r9 (fC XV (fC XU XT))
 replace o10:=(bq k1 ⟨o10,r10.lt⟩ (fC Xi (fC Xh Xg))).1
 replace r10:=aC k1 r10 (fC Xi (fC Xh Xg))
 replace b:=bJ k1 b (by simp[nb3,nb4,nb5])
 replace K:=K.trans (k1.mono fun c hc=>by simp only[List.mem_append] at hc ⊢;rcases hc with g|g|g<;>simp[g])
 clear k1
 (repeat' first|refine vs ?_|fail)
 refine aG (Hz _ _ F6 n (wm3 m x) _ r6 o6 (by omega) (by omega)) ?_
 rintro _ h6 ⟨rfl,k1,r6,p6⟩
 replace OO:=lI OO LT k1 p6
 replace LT:∀ c∈F0++(F1++(F2++(F3++(F4++(F5++(F6++(F7++(F8++(F9++F10))))))))),c < h6.n:=fun c hc=>Nat.lt_of_lt_of_le (LT c hc) k1.1
 replace r0:=aC k1 r0 (Y9)
 replace r1:=aC k1 r1 (Y0)
 replace r2:=aC k1 r2 (YQ)
 replace r3:=aC k1 r3 (YH)
 replace r4:=aC k1 r4 (Yz)
 replace r5:=aC k1 r5 (Yr)
 replace o7:=(bq k1 ⟨o7,r7.lt⟩ (Yd)).1
 replace r7:=aC k1 r7 (Yd)
 replace o8:=(bq k1 ⟨o8,r8.lt⟩ (X4)).1
 replace r8:=aC k1 r8 (X4)
 replace o9:=(bq k1 ⟨o9,r9.lt⟩ (XR)).1
 replace r9:=aC k1 r9 (XR)
 replace o10:=(bq k1 ⟨o10,r10.lt⟩ (Xf)).1
 replace r10:=aC k1 r10 (Xf)
 replace b:=bJ k1 b nb6
 replace K:=K.trans (k1.mono fun c hc=>by simp[hc])
 clear k1
 (repeat' first|refine vs ?_|fail)
 refine aG (H9 _ _ F7 n (wm6 m x) _ r7 o7 (by omega) (by omega)) ?_
 rintro _ h7 ⟨rfl,k1,r7,p7⟩
 replace OO:=lI OO LT k1 p7
 replace LT:∀ c∈F0++(F1++(F2++(F3++(F4++(F5++(F6++(F7++(F8++(F9++F10))))))))),c < h7.n:=fun c hc=>Nat.lt_of_lt_of_le (LT c hc) k1.1
 replace r0:=aC k1 r0 (Y8)
 replace r1:=aC k1 r1 (YZ)
 replace r2:=aC k1 r2 (YP)
 replace r3:=aC k1 r3 (YG)
 replace r4:=aC k1 r4 (Yy)
 replace r5:=aC k1 r5 (Yq)
 replace r6:=aC k1 r6 (Yk)
 replace o8:=(bq k1 ⟨o8,r8.lt⟩ (X3)).1
 replace r8:=aC k1 r8 (X3)
 replace o9:=(bq k1 ⟨o9,r9.lt⟩ (XQ)).1
 replace r9:=aC k1 r9 (XQ)
 replace o10:=(bq k1 ⟨o10,r10.lt⟩ (Xe)).1
 replace r10:=aC k1 r10 (Xe)
 replace b:=bJ k1 b nb7
 replace K:=K.trans (k1.mono fun c hc=>by simp[hc])
 clear k1
 (repeat' first|refine vs ?_|fail)
 refine aG (H9 _ _ F8 n (wm7 m x) _ r8 o8 (by omega) (by omega)) ?_
 rintro _ h8 ⟨rfl,k1,r8,p8⟩
 replace OO:=lI OO LT k1 p8
 replace LT:∀ c∈F0++(F1++(F2++(F3++(F4++(F5++(F6++(F7++(F8++(F9++F10))))))))),c < h8.n:=fun c hc=>Nat.lt_of_lt_of_le (LT c hc) k1.1
 replace r0:=aC k1 r0 (Y7)
 replace r1:=aC k1 r1 (YX)
 replace r2:=aC k1 r2 (YO)
 replace r3:=aC k1 r3 (YF)
 replace r4:=aC k1 r4 (Yx)
 replace r5:=aC k1 r5 (Yp)
 replace r6:=aC k1 r6 (Yj)
 replace r7:=aC k1 r7 (Yc)
 replace o9:=(bq k1 ⟨o9,r9.lt⟩ (XP)).1
 replace r9:=aC k1 r9 (XP)
 replace o10:=(bq k1 ⟨o10,r10.lt⟩ (Xd)).1
 replace r10:=aC k1 r10 (Xd)
 replace b:=bJ k1 b nb8
 replace K:=K.trans (k1.mono fun c hc=>by simp[hc])
 clear k1
 (repeat' first|refine vs ?_|fail)
 refine aG (abp _ _ F9 n (wm8 m x) _ r9 o9 (by omega) (by omega)) ?_
 rintro _ h9 ⟨rfl,k1,r9,p9⟩
 replace OO:=lI OO LT k1 p9
 replace LT:∀ c∈F0++(F1++(F2++(F3++(F4++(F5++(F6++(F7++(F8++(F9++F10))))))))),c < h9.n:=fun c hc=>Nat.lt_of_lt_of_le (LT c hc) k1.1
 replace r0:=aC k1 r0 (Y6)
 replace r1:=aC k1 r1 (YW)
 replace r2:=aC k1 r2 (YN)
 replace r3:=aC k1 r3 (YE)
 replace r4:=aC k1 r4 (Yw)
 replace r5:=aC k1 r5 (Yo)
 replace r6:=aC k1 r6 (Yi)
 replace r7:=aC k1 r7 (Yb)
 replace r8:=aC k1 r8 (X0)
 replace o10:=(bq k1 ⟨o10,r10.lt⟩ (Xc)).1
 replace r10:=aC k1 r10 (Xc)
 replace b:=bJ k1 b nb9
 replace K:=K.trans (k1.mono fun c hc=>by simp[hc])
 clear k1
 (repeat' first|refine vs ?_|fail)
 refine aG (abr _ _ F10 n (wm9 m x) _ r10 o10 (by omega) (by omega)) ?_
 rintro _ h10 ⟨rfl,k1,r10,p10⟩
 replace OO:=lI OO LT k1 p10
 replace LT:∀ c∈F0++(F1++(F2++(F3++(F4++(F5++(F6++(F7++(F8++(F9++F10))))))))),c < h10.n:=fun c hc=>Nat.lt_of_lt_of_le (LT c hc) k1.1
 replace r0:=aC k1 r0 (Xm)
 replace r1:=aC k1 r1 (Xb)
 replace r2:=aC k1 r2 (Xa)
 replace r3:=aC k1 r3 (WZ)
 replace r4:=aC k1 r4 (WY)
 replace r5:=aC k1 r5 (WX)
 replace r6:=aC k1 r6 (WW)
 replace r7:=aC k1 r7 (WU)
 replace r8:=aC k1 r8 (WT)
 replace r9:=aC k1 r9 (WQ)
 replace b:=bJ k1 b ank
 replace K:=K.trans (k1.mono fun c hc=>by simp[hc])
 clear k1
 (repeat' first|refine vs ?_|fail)
 exact⟨rfl,_,rfl,rfl,K,⟨v0,v1,v2,v3,v4,v5,v6,v7,v8,v9,v10,F0,F1,F2,F3,F4,F5,F6,F7,F8,F9,F10,rfl,rfl,r0,r1,r2,r3,r4,r5,r6,r7,r8,r9,r10⟩,OO⟩
theorem Nk {x:Wld} {cs:List AV} {F:List Nat} {m:Int} {h:AH} (r:Cel.rep h (U2 m x) cs F) (h0:0≤m) (h1:wN m x≤1099511627776):aO Tryz.prog BR [.agg cs,.int .i64 m] h (.int .i64 (wN m x)):=by
 obtain⟨v0,v1,v2,v3,v4,v5,v6,v7,v8,v9,v10,F0,F1,F2,F3,F4,F5,F6,F7,F8,F9,F10,rfl,rfl,r0,r1,r2,r3,r4,r5,r6,r7,r8,r9,r10⟩:=r
 have u0:=cK x.c.rule.l m
 have u1:=cK x.st (wm0 m x)
 have u2:=cK x.cache (wm1 m x)
 have u3:=Ka (wm2 m x) x.w
 have u6:=cK x.due (wm3 m x)
 have u7:=cK x.queue (wm6 m x)
 have u8:=cK x.out (wm7 m x)
 have u9:=cK x.tasks (wm8 m x)
 have u10:=cK x.aI (wm9 m x)
 have g0:(mks m x.c.rule.l).2=wm0 m x:=rfl
 have g1:(mks (wm0 m x) x.st).2=wm1 m x:=rfl
 have g2:(mks (wm1 m x) x.cache).2=wm2 m x:=rfl
 have g3:(jh (wm2 m x) x.w).2=wm3 m x:=rfl
 have g6:(mks (wm3 m x) x.due).2=wm6 m x:=rfl
 have g7:(mks (wm6 m x) x.queue).2=wm7 m x:=rfl
 have g8:(mks (wm7 m x) x.out).2=wm8 m x:=rfl
 have g9:(mks (wm8 m x) x.tasks).2=wm9 m x:=rfl
 have g10:(mks (wm9 m x) x.aI).2=qj m x:=rfl
 have hm:qj m x≤1099511627776:=h1
 refine reader (acB _ _) (by simp only[old]) ?_
 unfold NK
 (repeat' first|refine vs ?_|fail)
 refine aK (adp (x:=x.c) (r0.ext ((Ext.refl h).push _)) h0 (by omega)) ?_
 (repeat' first|refine vs ?_|(refine br ?_ ?_<;>first|exact bo|intro _)|((with_reducible refine bF ?_);simp only[g0,g1,g2]))
 refine aK (aah x.st v1 F1 (wm0 m x) _ (r1.ext ((Ext.refl h).push _)) (by omega) (by omega)) ?_
 (repeat' first|refine vs ?_|(refine br ?_ ?_<;>first|exact bo|intro _)|((with_reducible refine bF ?_);simp only[g0,g1,g2]))
 refine aK (Z6 x.cache v2 F2 (wm1 m x) _ (r2.ext ((Ext.refl h).push _)) (by omega) (by omega)) ?_
 (repeat' first|refine vs ?_|(refine br ?_ ?_<;>first|exact bo|intro _)|((with_reducible refine bF ?_);simp only[g0,g1,g2]))
 refine aK (abt (x:=x.w) (m:=wm2 m x) (r3.ext ((Ext.refl h).push _)) (r4.ext ((Ext.refl h).push _)) (r5.ext ((Ext.refl h).push _)) (by omega) (by omega)) ?_
 (repeat' first|refine vs ?_|(refine br ?_ ?_<;>first|exact bo|intro _)|fail)
 refine aK (HV x.due v6 F6 (wm3 m x) _ (r6.ext ((Ext.refl h).push _)) (by omega) (by omega)) ?_
 (repeat' first|refine vs ?_|(refine br ?_ ?_<;>first|exact bo|intro _)|fail)
 refine aK (Ia x.queue v7 F7 (wm6 m x) _ (r7.ext ((Ext.refl h).push _)) (by omega) (by omega)) ?_
 (repeat' first|refine vs ?_|(refine br ?_ ?_<;>first|exact bo|intro _)|fail)
 refine aK (Ia x.out v8 F8 (wm7 m x) _ (r8.ext ((Ext.refl h).push _)) (by omega) (by omega)) ?_
 (repeat' first|refine vs ?_|(refine br ?_ ?_<;>first|exact bo|intro _)|fail)
 refine aK (abu x.tasks v9 F9 (wm8 m x) _ (r9.ext ((Ext.refl h).push _)) (by omega) (by omega)) ?_
 (repeat' first|refine vs ?_|(refine br ?_ ?_<;>first|exact bo|intro _)|fail)
 refine aK (abw x.aI v10 F10 (wm9 m x) _ (r10.ext ((Ext.refl h).push _)) (by omega) (by omega)) ?_
 (repeat' first|refine vs ?_|(refine br ?_ ?_<;>first|exact bo|intro _)|fail)
 exact pi rfl
end Go.Proofs.YtekfdoknfcedpaaGreat
