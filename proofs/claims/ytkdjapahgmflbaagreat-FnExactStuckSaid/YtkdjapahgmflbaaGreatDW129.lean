import Derived.Test.YtkdjapahgmflbaaGreatDW128
import Derived.Test.YtkdjapahgmflbaaGreatDKW2
set_option linter.unusedSimpArgs false
set_option linter.unusedVariables false
set_option maxHeartbeats 4000000
namespace Go.Proofs.YtkdjapahgmflbaaGreat
open Go Go.Ab
abbrev apf:Nat:=5
abbrev apa:Nat:=20
abbrev apb:Nat:=21
abbrev ao8:Nat:=32
abbrev ao7:Nat:=98
def apk (x0:AV):Prog:=.op (.box x0) fun a=>Lg 29 a fun a=>Ln 0 a fun b=>.loop [.int .i64 0,.int .i64 0] (fun c=>Bn .lss (g c 1) b fun b=>.ite b (Ix 12 a (g c 1) fun a=>Ld 12 a fun a=>.op (.alloc gJ) fun b=>.op (.st 12 b a) fun _=>Lg 0 b fun a=>Bn .neq a (.int .i64 0) fun a=>.scope (.ite a (Bn .add (g c 0) (.int .i64 1) fun a=>.leaf 0 [a]) (.leaf 0 [g c 0])) (fun a=>Bn .add (g c 1) (.int .i64 1) fun b=>.leaf 0 [g a 0,b]) fun a b=>aB a 1 (.leaf 1 b) .bad) (.leaf 2 [g c 0,g c 1])) fun a b=>aB a 1 (.leaf 1 b) (aB a 2 (.fin [.val (g b 0)]) .bad)
theorem apx (x0:AV):CC Tryz.prog ao8 [x0] (apk x0):=cc Tryz.func32 [3,7,8,9] (fun _=>[])
def apj (x0:AV):Prog:=.op (.box x0) fun a=>.loop [.int .i64 0,.int .i64 0] (fun b=>Lg 29 a fun c=>Ln 0 c fun c=>Bn .lss (g b 1) c fun c=>.ite c (Lg 29 a fun a=>Ix 12 a (g b 1) fun a=>Lg 0 a fun a=>Bn .neq a (.int .i64 0) fun a=>.scope (.ite a (Bn .add (g b 0) (.int .i64 1) fun a=>.leaf 0 [a]) (.leaf 0 [g b 0])) (fun a=>Bn .add (g b 1) (.int .i64 1) fun b=>.leaf 0 [g a 0,b]) fun a b=>aB a 1 (.leaf 1 b) .bad) (.leaf 2 [g b 0,g b 1])) fun a b=>aB a 1 (.leaf 1 b) (aB a 2 (.fin [.val (g b 0)]) .bad)
theorem apw (x0:AV):CC Tryz.prog ao7 [x0] (apj x0):=cc Tryz.func98 [1,3,4] (fun _=>[])
def ao5:List Task→Nat
 |[]=>0
 |t::l=>(if t.op≠0 then 1 else 0)+ao5 l
theorem apl:∀ l m:List Task,ao5 (l++m)=ao5 l+ao5 m
 |[],m=>by simp[ao5]
 |t::l,m=>by simp only[List.cons_append,ao5,apl l m];omega
theorem apm {l:List Task} {i:Nat} {t:Task} (ht:l.take (i+1)=l.take i++[t]):ao5 (l.take (i+1))=ao5 (l.take i)+(if t.op≠0 then 1 else 0):=by rw[ht,apl];simp[ao5]
theorem apc:∀ l:List Task,ao5 l≤l.length
 |[]=>by simp[ao5]
 |t::l=>by have:=apc l;simp only[ao5,List.length_cons];split<;>omega
theorem apv {h:AH} {x:Wld} {cs:List AV} {F:List Nat} (r:Cel.rep h x cs F):aM Tryz.prog ao8 [.agg cs] h (.int .i64 (ao5 x.tasks:Nat)):=by
 obtain⟨v0,v1,v2,v3,v4,v5,v6,v7,v8,v9,v10,F0,F1,F2,F3,F4,F5,F6,F7,F8,F9,F10,rfl,rfl,r0,r1,r2,r3,r4,r5,r6,r7,r8,r9,r10⟩:=r
 refine reader (apx _) (by simp only[old]) ?_
 unfold apk
 have hl9:=r9.small
 (repeat' first|refine vs ?_|fail)
 refine aT x.tasks.length (fun i vs h1=>vs=[.int .i64 (ao5 (x.tasks.take i):Nat),.int .i64 (i:Int)]∧i≤x.tasks.length∧Ext (h.push ⟨(x.cs v0 v1 v2 v3 v4 v5 v6 v7 v8 v9 v10),0,0⟩) h1) ⟨rfl,Nat.zero_le _,aD⟩ ?_
 rintro i vs h1 _ ⟨rfl,hi,e1⟩
 have n1:=e1.1
 simp only[aH] at n1
 have hb:=apc (x.tasks.take i)
 rw[List.length_take] at hb
 simp only[g0,g1]
 refine br (fun hlt=>?_) (fun hge=>?_)
 ·obtain⟨t,hx,-,htk⟩:=aP (show i < x.tasks.length by omega)
  have hs:=apm htk
  (repeat' first|refine vs ?_|(refine br ?_ ?_<;>first|exact bx|intro _)|((with_reducible refine aY ?_);((refine ix ?_);rintro _ _ _ _ _ ⟨_,_,_,_,rfl,rfl,_,_⟩ _))|fail)
  ·rename_i hne
   rw[if_pos hne] at hs
   exact⟨by omega,by rw[hs];rfl,by omega,aD⟩
  ·rename_i he
   rw[if_neg (by simpa using he)] at hs
   exact⟨by omega,by rw[hs];rfl,by omega,aD⟩
 ·have e:i=x.tasks.length:=by omega
  rw[e,List.take_length]
  (repeat' first|refine vs ?_|fail)
  exact pi rfl
theorem apu {h:AH} {x:Wld} {cs:List AV} {F:List Nat} (r:Cel.rep h x cs F):aM Tryz.prog ao7 [.agg cs] h (.int .i64 (ao5 x.tasks:Nat)):=by
 obtain⟨v0,v1,v2,v3,v4,v5,v6,v7,v8,v9,v10,F0,F1,F2,F3,F4,F5,F6,F7,F8,F9,F10,rfl,rfl,r0,r1,r2,r3,r4,r5,r6,r7,r8,r9,r10⟩:=r
 refine reader (apw _) (by simp only[old]) ?_
 unfold apj
 have hl9:=r9.small
 (repeat' first|refine vs ?_|fail)
 refine aT x.tasks.length (fun i vs h1=>vs=[.int .i64 (ao5 (x.tasks.take i):Nat),.int .i64 (i:Int)]∧i≤x.tasks.length∧Ext (h.push ⟨(x.cs v0 v1 v2 v3 v4 v5 v6 v7 v8 v9 v10),0,0⟩) h1) ⟨rfl,Nat.zero_le _,aD⟩ ?_
 rintro i vs h1 _ ⟨rfl,hi,e1⟩
 have n1:=e1.1
 simp only[aH] at n1
 have hb:=apc (x.tasks.take i)
 rw[List.length_take] at hb
 simp only[g0,g1]
 refine vs ?_
 refine br (fun hlt=>?_) (fun hge=>?_)
 ·obtain⟨t,hx,-,htk⟩:=aP (show i < x.tasks.length by omega)
  have hs:=apm htk
  (repeat' first|refine vs ?_|(refine br ?_ ?_<;>first|exact bx|intro _)|((with_reducible refine aY ?_);((refine ix ?_);rintro _ _ _ _ _ ⟨_,_,_,_,rfl,rfl,_,_⟩ _))|fail)
  ·rename_i hne
   rw[if_pos hne] at hs
   exact⟨by omega,by rw[hs];rfl,by omega,aD⟩
  ·rename_i he
   rw[if_neg (by simpa using he)] at hs
   exact⟨by omega,by rw[hs];rfl,by omega,aD⟩
 ·have e:i=x.tasks.length:=by omega
  rw[e,List.take_length]
  (repeat' first|refine vs ?_|fail)
  exact pi rfl
section
def UR (x0 x1:AV):Prog:=.op (.box x0) fun a=>Ld 32 a fun a=>Cl Lc [a,x1] fun a=>.op (.ext a 0) fun b=>.op (.ext a 1) fun a=>.op (.alloc jE) fun c=>.op (.st 32 c b) fun _=>.fin [.val a]
theorem ai0 (x0 x1:AV):CC Tryz.prog Le [x0,x1] (UR x0 x1):=cc Tryz.func19
def UM (x0 x1:AV):Prog:=.op (.box x0) fun a=>Ld 32 a fun a=>Cl K9 [a,x1] fun a=>.op (.ext a 0) fun b=>.op (.ext a 1) fun a=>.op (.alloc jE) fun c=>.op (.st 32 c b) fun _=>.fin [.val a]
theorem aiW (x0 x1:AV):CC Tryz.prog La [x0,x1] (UM x0 x1):=cc Tryz.func18
def aph (x0:AV):Prog:=.op (.box x0) fun a=>Lg 29 a fun b=>Ln 0 b fun c=>.loop [.int .i64 0] (fun d=>Bn .lss (g d 0) c fun c=>.ite c (Ix 12 b (g d 0) fun b=>Ld 12 b fun b=>.op (.alloc gJ) fun c=>.op (.st 12 c b) fun _=>Lg 0 c fun b=>Bn .neq b (.int .i64 0) fun b=>.gop b true (.ldn 32 a) fun a=>.gop b true (.mv (g d 0)) fun c=>.gop b true (.call Le [a,c]) fun a=>Pk b a (.bool false) fun a=>.ite a (.fin [.val (.bool false)]) (Bn .add (g d 0) (.int .i64 1) fun a=>.leaf 0 [a])) (.leaf 2 [g d 0])) fun b c=>aB b 1 (.leaf 1 c) (aB b 2 (Ld 32 a fun b=>Cl ao8 [b] fun b=>Bn .gtr b (.int .i64 0) fun b=>Gf b true 27 a fun a=>.gop b true (.len 0 a) fun a=>.gop b true (.bin 0 .eql a (.int .i64 0)) fun a=>Pk b a (.bool false) fun a=>.fin [.val a]) .bad)
theorem apt (x0:AV):CC Tryz.prog apb [x0] (aph x0):=cc Tryz.func21 [1,6,7,8] (fun _=>[])
def apg (x0:AV):Prog:=.op (.box x0) fun a=>Ld 32 a fun b=>Cl ao7 [b] fun b=>Bn .eql b (.int .i64 0) fun b=>Gf b false 27 a fun c=>.gop b false (.len 0 c) fun c=>.gop b false (.bin 0 .gtr c (.int .i64 0)) fun c=>Pk b (.bool true) c fun b=>.ite b (.fin [.val (.bool false)]) (.loop [.int .i64 0] (fun b=>Lg 29 a fun c=>Ln 0 c fun c=>Bn .lss (g b 0) c fun c=>.ite c (Lg 29 a fun c=>Ix 12 c (g b 0) fun c=>Lg 0 c fun c=>Bn .neq c (.int .i64 0) fun c=>.gop c true (.ldn 32 a) fun a=>.gop c true (.mv (g b 0)) fun d=>.gop c true (.call La [a,d]) fun a=>Pk c a (.bool false) fun a=>.ite a (.fin [.val (.bool false)]) (Bn .add (g b 0) (.int .i64 1) fun a=>.leaf 0 [a])) (.leaf 2 [g b 0])) fun a b=>aB a 1 (.leaf 1 b) (aB a 2 (.fin [.val (.bool true)]) .bad))
theorem aps (x0:AV):CC Tryz.prog apa [x0] (apg x0):=cc Tryz.func20 [1,3] (fun _=>[])
end
theorem aiO {h:AH} {x:Wld} {cs:List AV} {F:List Nat} {k:Int} (ok:Cel.ok x) (hs:Sz.sz x≤33554432) (r:Cel.rep h x cs F):aM Tryz.prog Le [.agg cs,.int .i64 k] h (.bool (mq x k).2):=by
 obtain⟨v0,v1,v2,v3,v4,v5,v6,v7,v8,v9,v10,F0,F1,F2,F3,F4,F5,F6,F7,F8,F9,F10,rfl,rfl,r0,r1,r2,r3,r4,r5,r6,r7,r8,r9,r10⟩:=r
 refine reader (ai0 _ _) (by simp only[old]) ?_
 unfold UR
 (repeat' first|refine vs ?_|fail)
 refine aK (aiN (x:=x) ok hs ⟨_,_,_,_,_,_,_,_,_,_,_,_,_,_,_,_,_,_,_,_,_,_,rfl,rfl,ah,ah,ah,ah,ah,ah,ah,ah,ah,ah,ah⟩) ?_
 rintro _ h1 ⟨e1,cs1,W1,rfl,p1,o1⟩
 have l1:cs1.length=32:=Cel.len p1
 (repeat' first|refine vs ?_|((with_reducible refine Ck ?_);refine yS (by assumption) (by rfl) ?_)|fail)
 exact pb rfl
theorem aiK {h:AH} {x:Wld} {cs:List AV} {F:List Nat} {k:Int} (ok:Cel.ok x) (hs:Sz.sz x≤33554432) (r:Cel.rep h x cs F):aM Tryz.prog La [.agg cs,.int .i64 k] h (.bool (mq x k).2):=by
 obtain⟨v0,v1,v2,v3,v4,v5,v6,v7,v8,v9,v10,F0,F1,F2,F3,F4,F5,F6,F7,F8,F9,F10,rfl,rfl,r0,r1,r2,r3,r4,r5,r6,r7,r8,r9,r10⟩:=r
 refine reader (aiW _ _) (by simp only[old]) ?_
 unfold UM
 (repeat' first|refine vs ?_|fail)
 refine aK (aiJ (x:=x) ok hs ⟨_,_,_,_,_,_,_,_,_,_,_,_,_,_,_,_,_,_,_,_,_,_,rfl,rfl,ah,ah,ah,ah,ah,ah,ah,ah,ah,ah,ah⟩) ?_
 rintro _ h1 ⟨e1,cs1,W1,rfl,p1,o1⟩
 have l1:cs1.length=32:=Cel.len p1
 (repeat' first|refine vs ?_|((with_reducible refine Ck ?_);refine yS (by assumption) (by rfl) ?_)|fail)
 exact pb rfl
def ao6 (x:Wld) (n:Nat):Prop:=∀ (k:Nat) (t:Task),k < n→x.tasks[k]? =some t→t.op≠0→(mq x k).2=false
def apd (x:Wld):Prop:=0 < ao5 x.tasks∧x.queue.length=0∧ao6 x x.tasks.length
theorem ao9 {x:Wld} {i:Nat} {t:Task} (hn:ao6 x i) (ht:x.tasks[i]? =some t) (hp:t.op≠0→(mq x i).2=false):ao6 x (i+1):=fun k s hk hs ho=>by
 by_cases e:k=i
 ·subst e;rw[ht] at hs;cases hs;exact hp ho
 ·exact hn k s (by omega) hs ho
theorem apr {h:AH} {x:Wld} {cs:List AV} {F:List Nat} (ok:Cel.ok x) (hs:Sz.sz x≤33554432) (r:Cel.rep h x cs F):aM Tryz.prog apb [.agg cs] h (.bool (bp (apd x))):=by
 obtain⟨v0,v1,v2,v3,v4,v5,v6,v7,v8,v9,v10,F0,F1,F2,F3,F4,F5,F6,F7,F8,F9,F10,rfl,rfl,r0,r1,r2,r3,r4,r5,r6,r7,r8,r9,r10⟩:=r
 refine reader (apt _) (by simp only[old]) ?_
 unfold aph
 have hl9:=r9.small
 have hl7:=r7.small
 (repeat' first|refine vs ?_|fail)
 refine aT x.tasks.length (fun i vs h1=>vs=[.int .i64 (i:Int)]∧i≤x.tasks.length∧Ext (h.push ⟨(x.cs v0 v1 v2 v3 v4 v5 v6 v7 v8 v9 v10),0,0⟩) h1∧ao6 x i) ⟨rfl,Nat.zero_le _,aD,fun k t hk=>by omega⟩ ?_
 rintro i vs h1 _ ⟨rfl,hi,e1,hn⟩
 have n1:=e1.1
 simp only[aH] at n1
 simp only[g0,g1]
 refine br (fun hlt=>?_) (fun hge=>?_)
 ·obtain⟨t,hx,-,htk⟩:=aP (show i < x.tasks.length by omega)
  (repeat' first|refine vs ?_|(refine br ?_ ?_<;>first|exact bx|intro _)|((with_reducible refine aA Le ?_);(refine bU (aiO (x:=x) ok hs ⟨_,_,_,_,_,_,_,_,_,_,_,_,_,_,_,_,_,_,_,_,_,_,rfl,rfl,ah,ah,ah,ah,ah,ah,ah,ah,ah,ah,ah⟩) ?_ ?_<;>intro hb))|((with_reducible refine aY ?_);((refine ix ?_);rintro _ _ _ _ _ ⟨_,_,_,_,rfl,rfl,_,_⟩ _))|fail)
  ·exact pf fun q=>by rw[q.2.2 i t (by omega) hx (by assumption)] at hb;cases hb
  ·exact⟨by omega,rfl,by omega,aD,ao9 hn hx fun _=>hb⟩
  ·exact⟨by omega,rfl,by omega,aD,ao9 hn hx fun q=>absurd (by assumption) q⟩
 ·have ei:i=x.tasks.length:=by omega
  subst ei
  (repeat' first|refine vs ?_|(refine br ?_ ?_<;>first|exact bx|intro _)|((with_reducible refine aA ao8 ?_);refine aJ (apv (x:=x) ⟨_,_,_,_,_,_,_,_,_,_,_,_,_,_,_,_,_,_,_,_,_,_,rfl,rfl,ah,ah,ah,ah,ah,ah,ah,ah,ah,ah,ah⟩) ?_)|fail)
  ·exact pt ⟨by omega,by omega,hn⟩
  ·exact pf fun q=>by have:=q.2.1;omega
  ·exact pf fun q=>by have:=q.1;omega
theorem apq {h:AH} {x:Wld} {cs:List AV} {F:List Nat} (ok:Cel.ok x) (hs:Sz.sz x≤33554432) (r:Cel.rep h x cs F):aM Tryz.prog apa [.agg cs] h (.bool (bp (apd x))):=by
 obtain⟨v0,v1,v2,v3,v4,v5,v6,v7,v8,v9,v10,F0,F1,F2,F3,F4,F5,F6,F7,F8,F9,F10,rfl,rfl,r0,r1,r2,r3,r4,r5,r6,r7,r8,r9,r10⟩:=r
 refine reader (aps _) (by simp only[old]) ?_
 unfold apg
 have hl9:=r9.small
 have hl7:=r7.small
 (repeat' first|refine vs ?_|(refine br ?_ ?_<;>first|exact bx|intro _)|((with_reducible refine aA ao7 ?_);refine aJ (apu (x:=x) ⟨_,_,_,_,_,_,_,_,_,_,_,_,_,_,_,_,_,_,_,_,_,_,rfl,rfl,ah,ah,ah,ah,ah,ah,ah,ah,ah,ah,ah⟩) ?_)|fail)
 all_goals try exact pf fun q=>by have:=q.1;have:=q.2.1;omega
 refine aT x.tasks.length (fun i vs h1=>vs=[.int .i64 (i:Int)]∧i≤x.tasks.length∧Ext (h.push ⟨(x.cs v0 v1 v2 v3 v4 v5 v6 v7 v8 v9 v10),0,0⟩) h1∧ao6 x i) ⟨rfl,Nat.zero_le _,aD,fun k t hk=>by omega⟩ ?_
 rintro i vs h1 _ ⟨rfl,hi,e1,hn⟩
 have n1:=e1.1
 simp only[aH] at n1
 simp only[g0,g1]
 refine vs ?_
 refine br (fun hlt=>?_) (fun hge=>?_)
 ·obtain⟨t,hx,-,htk⟩:=aP (show i < x.tasks.length by omega)
  (repeat' first|refine vs ?_|(refine br ?_ ?_<;>first|exact bx|intro _)|((with_reducible refine aA La ?_);(refine bU (aiK (x:=x) ok hs ⟨_,_,_,_,_,_,_,_,_,_,_,_,_,_,_,_,_,_,_,_,_,_,rfl,rfl,ah,ah,ah,ah,ah,ah,ah,ah,ah,ah,ah⟩) ?_ ?_<;>intro hb))|((with_reducible refine aY ?_);((refine ix ?_);rintro _ _ _ _ _ ⟨_,_,_,_,rfl,rfl,_,_⟩ _))|fail)
  ·exact pf fun q=>by rw[q.2.2 i t (by omega) hx (by assumption)] at hb;cases hb
  ·exact⟨by omega,rfl,by omega,aD,ao9 hn hx fun _=>hb⟩
  ·exact⟨by omega,rfl,by omega,aD,ao9 hn hx fun q=>absurd (by assumption) q⟩
 ·have ei:i=x.tasks.length:=by omega
  subst ei
  (repeat' first|refine vs ?_|fail)
  exact pt ⟨by omega,by omega,hn⟩
end Go.Proofs.YtkdjapahgmflbaaGreat
