import Derived.Test.YtkdjapahgmflbaaGreatDKW1
import Derived.Test.YtkdjapahgmflbaaGreatDK4
import Derived.Test.YtkdjapahgmflbaaGreatDK5
import Derived.Test.YtkdjapahgmflbaaGreatDNm
set_option linter.unusedSimpArgs false
set_option linter.unusedVariables false
section
set_option maxHeartbeats 2000000
namespace Go.Proofs.YtkdjapahgmflbaaGreat
open Go Go.Ab
section
def TI (x0:AV):Prog:=.op (.box x0) fun a=>Lg 1 a fun b=>Ln 0 b fun c=>.loop [.aC,.int .i64 0] (fun a=>Bn .lss (g a 1) c fun c=>.ite c (Ix 1 b (g a 1) fun b=>.op (.ld1 b) fun b=>.op (.app 3 24 (g a 0) b) fun b=>Bn .add (g a 1) (.int .i64 1) fun a=>.leaf 0 [b,a]) (.leaf 2 [g a 0,g a 1])) fun b c=>aB b 1 (.leaf 1 c) (aB b 2 (Lg 2 a fun b=>Ln 0 b fun d=>.loop [g c 0,.int .i64 0] (fun a=>Bn .lss (g a 1) d fun c=>.ite c (Ix 1 b (g a 1) fun b=>.op (.ld1 b) fun b=>.op (.app 3 24 (g a 0) b) fun b=>Bn .add (g a 1) (.int .i64 1) fun a=>.leaf 0 [b,a]) (.leaf 4 [g a 0,g a 1])) fun b c=>aB b 1 (.leaf 1 c) (aB b 4 (Lg 3 a fun a=>.op (.app 3 24 (g c 0) a) fun a=>.fin [.val a]) .bad)) .bad)
theorem ahI (x0:AV):CC Tryz.prog vw [x0] (TI x0):=cc Tryz.func213 [1,3,9,10,11,20,21,22] (fun _=>[])
def SK (x0:AV):Prog:=.op (.box x0) fun a=>.op (.aU 3 0 [] []) fun b=>.loop [b,.int .i64 0] (fun b=>Lg 1 a fun c=>Ln 0 c fun c=>Bn .lss (g b 1) c fun c=>.ite c (Lg 1 a fun a=>Ix 1 a (g b 1) fun a=>.op (.ld1 a) fun a=>.op (.app 3 24 (g b 0) a) fun a=>Bn .add (g b 1) (.int .i64 1) fun b=>.leaf 0 [a,b]) (.leaf 2 [g b 0,g b 1])) fun b c=>aB b 1 (.leaf 1 c) (aB b 2 (.loop [g c 0,.int .i64 0] (fun b=>Lg 2 a fun c=>Ln 0 c fun c=>Bn .lss (g b 1) c fun c=>.ite c (Lg 2 a fun a=>Ix 1 a (g b 1) fun a=>.op (.ld1 a) fun a=>.op (.app 3 24 (g b 0) a) fun a=>Bn .add (g b 1) (.int .i64 1) fun b=>.leaf 0 [a,b]) (.leaf 4 [g b 0,g b 1])) fun b c=>aB b 1 (.leaf 1 c) (aB b 4 (Lg 3 a fun a=>.op (.app 3 24 (g c 0) a) fun a=>.fin [.val a]) .bad)) .bad)
theorem ag8 (x0:AV):CC Tryz.prog pX [x0] (SK x0):=cc Tryz.func157 [1,3,4,5] (fun _=>[])
def RN (x0 x1 x2 x3:AV):Prog:=.op (.box x0) fun a=>Ln 0 x1 fun b=>.loop [.tup [],.int .i64 0] (fun c=>Bn .lss (g c 1) b fun b=>.ite b (Ix 3 x1 (g c 1) fun b=>Ld 3 b fun b=>.op (.alloc [.int .i64 0,.int .i64 0,.int .i64 0]) fun d=>.op (.st 3 d b) fun _=>Lg 0 d fun b=>Bn .lss b (.int .i64 1) fun b=>Gf b false 1 d fun e=>.gop b false (.call bq [e,.int .i64 1,.int .i64 999]) fun e=>.gop b false (.una .not e) fun e=>Pk b (.bool true) e fun b=>Gf b false 2 d fun e=>Gf b false 0 a fun f=>.gop b false (.bin 0 .leq e f) fun e=>Pk b (.bool true) e fun b=>Gf b false 2 d fun e=>.gop b false (.bin 0 .gtr e (.int .i64 2147483647)) fun e=>Pk b (.bool true) e fun b=>.ite b (.fin [.val (.bool false)]) (Lg 2 d fun b=>Bn .quo b (.int .i64 8) fun b=>Lg 0 a fun a=>Bn .quo a (.int .i64 8) fun a=>Bn .sub b a fun a=>Bn .geq a (.int .i64 8) fun b=>Bn .eql x2 (.int .i64 0) fun e=>.scope (.ite e (Bn .eql a (.int .i64 0) fun a=>Gf a true 2 d fun b=>.gop a true (.bin 0 .rem b (.int .i64 8)) fun b=>.gop a true (.mv x3) fun c=>.gop a true (.bin 0 .eql b c) fun b=>Pk a b (.bool false) fun a=>.leaf 0 [a]) (Bn .eql x2 (.int .i64 1) fun c=>.scope (.ite c (Cl bq [a,.int .i64 1,.int .i64 7] fun a=>Gf a true 2 d fun b=>.gop a true (.bin 0 .quo b (.int .i64 8)) fun b=>.gop a true (.bin 0 .rem b (.int .i64 8)) fun b=>.gop a true (.mv x3) fun c=>.gop a true (.bin 0 .eql b c) fun b=>Pk a b (.bool false) fun a=>.leaf 0 [a]) (.leaf 0 [b])) (fun a=>.leaf 0 [g a 0]) fun a b=>aB a 1 (.leaf 1 b) .bad)) (fun a=>.op (.una .not (g a 0)) fun b=>.ite b (.fin [.val (.bool false)]) (Bn .add (g c 1) (.int .i64 1) fun b=>.leaf 0 [g a 0,b])) fun a b=>aB a 1 (.leaf 1 b) .bad)) (.leaf 2 [g c 0,g c 1])) fun a b=>aB a 1 (.leaf 1 b) (aB a 2 (.fin [.val (.bool true)]) .bad)
theorem afQ (x0 x1 x2 x3:AV):CC Tryz.prog uX [x0,x1,x2,x3] (RN x0 x1 x2 x3):=cc Tryz.func306 [2,3,4,12,13,14,15] (fun _=>[])
def QV (x0 x1:AV):Prog:=Bn .quo x1 (.int .i64 8) fun a=>Bn .quo x0 (.int .i64 8) fun b=>Bn .eql a b fun a=>.ite a (Bn .rem x1 (.int .i64 8) fun a=>.fin [.val (.int .i64 1),.val a]) (Bn .quo x1 (.int .i64 8) fun a=>Bn .quo x0 (.int .i64 8) fun b=>Bn .sub a b fun a=>Bn .lss a (.int .i64 8) fun a=>.ite a (Bn .quo x1 (.int .i64 8) fun a=>Bn .rem a (.int .i64 8) fun a=>.fin [.val (.int .i64 2),.val a]) (.fin [.val (.int .i64 3),.val (.int .i64 0)]))
theorem aeV (x0 x1:AV):CC Tryz.prog sF [x0,x1] (QV x0 x1):=cc Tryz.func346
def Sy (x0 x1 x2 x3:AV):Prog:=.op (.box x0) fun a=>.loop [.int .i64 0] (fun b=>Ln 0 x1 fun c=>Bn .lss (g b 0) c fun c=>.ite c (Ix 3 x1 (g b 0) fun c=>Ld 3 c fun c=>.op (.alloc [.int .i64 0,.int .i64 0,.int .i64 0]) fun d=>.op (.st 3 d c) fun _=>Lg 0 d fun c=>Bn .lss c (.int .i64 1) fun c=>Gf c false 1 d fun e=>.gop c false (.call bQ [e,.int .i64 1,.int .i64 999]) fun e=>.gop c false (.una .not e) fun e=>Pk c (.bool true) e fun c=>Gf c false 2 d fun e=>Gf c false 0 a fun f=>.gop c false (.bin 0 .add f (.int .i64 1)) fun f=>.gop c false (.call bQ [e,f,.int .i64 2147483647]) fun e=>.gop c false (.una .not e) fun e=>Pk c (.bool true) e fun c=>.ite c (.fin [.val (.bool false)]) (Lg 0 a fun a=>Lg 2 d fun c=>Cl sF [a,c] fun a=>.op (.ext a 0) fun c=>.op (.ext a 1) fun a=>Bn .neq c x2 fun c=>.gop c false (.mv a) fun a=>.gop c false (.mv x3) fun d=>.gop c false (.bin 0 .neq a d) fun a=>Pk c (.bool true) a fun a=>.ite a (.fin [.val (.bool false)]) (Bn .add (g b 0) (.int .i64 1) fun a=>.leaf 0 [a]))) (.leaf 2 [g b 0])) fun a b=>aB a 1 (.leaf 1 b) (aB a 2 (.fin [.val (.bool true)]) .bad)
theorem agX (x0 x1 x2 x3:AV):CC Tryz.prog uY [x0,x1,x2,x3] (Sy x0 x1 x2 x3):=cc Tryz.func266 [1,2,3,4,9] (fun _=>[])
def Pg (x0 x1:AV):Prog:=.op (.box x0) fun a=>Lg 0 a fun a=>.op (.ld1 x1) fun b=>Bn .eql a b fun a=>.fin [.val a]
theorem ab0 (x0 x1:AV):CC Tryz.prog Jt [x0,x1] (Pg x0 x1):=cc Tryz.func368
def ZW (x0 x1:AV):Prog:=Ln 0 x0 fun a=>.loop [.int .i64 0] (fun b=>Bn .lss (g b 0) a fun a=>.ite a (Ix 3 x0 (g b 0) fun a=>Ld 3 a fun a=>.op (.iC x1 [a]) fun a=>.ite a (.fin [.val (g b 0)]) (Bn .add (g b 0) (.int .i64 1) fun a=>.leaf 0 [a])) (.leaf 2 [g b 0])) fun a b=>aB a 1 (.leaf 1 b) (aB a 2 (.fin [.val (.int .i64 (-1))]) .bad)
theorem ZY (x0 x1:AV):CC Tryz.prog uJ [x0,x1] (ZW x0 x1):=cc Tryz.func315 [0,1,7,8] (fun _=>[])
def RG (x0 x1:AV):Prog:=.op (.box x1) fun a=>.op (.kr Jt [a]) fun a=>Cl uJ [x0,a] fun a=>.fin [.val a]
theorem afL (x0 x1:AV):CC Tryz.prog uW [x0,x1] (RG x0 x1):=cc Tryz.func307
def RP (x0:AV):Prog:=.op (.box x0) fun a=>Lg 0 a fun b=>Cl bq [b,.int .i64 0,.int .i64 2147483647] fun b=>.op (.una .not b) fun b=>Gf b false 1 a fun c=>.gop b false (.len 0 c) fun c=>.gop b false (.bin 0 .neq c (.int .i64 8)) fun c=>Pk b (.bool true) c fun b=>Gf b false 2 a fun c=>.gop b false (.len 0 c) fun c=>.gop b false (.bin 0 .neq c (.int .i64 8)) fun c=>Pk b (.bool true) c fun b=>.gop b false (.ldn 4 a) fun c=>Gf b false 3 a fun d=>.gop b false (.call uX [c,d,.int .i64 2,.int .i64 0]) fun c=>.gop b false (.una .not c) fun c=>Pk b (.bool true) c fun b=>.ite b (.fin [.val (.bool false)]) (.loop [.int .i64 0] (fun b=>Bn .lss (g b 0) (.int .i64 8) fun c=>.ite c (Ld 4 a fun c=>Lg 1 a fun d=>Ix 1 d (g b 0) fun d=>.op (.ld1 d) fun d=>Cl uX [c,d,.int .i64 0,g b 0] fun c=>.op (.una .not c) fun c=>.gop c false (.ldn 4 a) fun d=>Gf c false 2 a fun a=>.gop c false (.mv (g b 0)) fun e=>.gop c false (.idx 1 a e) fun a=>.gop c false (.ld1 a) fun a=>.gop c false (.mv (g b 0)) fun e=>.gop c false (.call uX [d,a,.int .i64 1,e]) fun a=>.gop c false (.una .not a) fun a=>Pk c (.bool true) a fun a=>.ite a (.fin [.val (.bool false)]) (Bn .add (g b 0) (.int .i64 1) fun a=>.leaf 0 [a])) (.leaf 2 [g b 0])) fun b c=>aB b 1 (.leaf 1 c) (aB b 2 (Ld 4 a fun a=>Cl vw [a] fun a=>Ln 0 a fun b=>.loop [.int .i64 0] (fun c=>Bn .lss (g c 0) b fun b=>.ite b (Ix 3 a (g c 0) fun b=>Ld 3 b fun b=>.op (.alloc [.int .i64 0,.int .i64 0,.int .i64 0]) fun d=>.op (.st 3 d b) fun _=>Lg 0 d fun b=>Cl uW [a,b] fun a=>Bn .neq a (g c 0) fun a=>.ite a (.fin [.val (.bool false)]) (Bn .add (g c 0) (.int .i64 1) fun a=>.leaf 0 [a])) (.leaf 4 [g c 0])) fun b c=>aB b 1 (.leaf 1 c) (aB b 4 (Ln 0 a fun a=>Bn .leq a (.int .i64 16) fun a=>.fin [.val a]) .bad)) .bad))
theorem afS (x0:AV):CC Tryz.prog lg [x0] (RP x0):=cc Tryz.func212 [1,3,4,56,57,58] (fun r=>if r=6 then[(0,[]),(1,[]),(2,[]),(3,[]),(4,[]),(5,[]),(6,[]),(7,[]),(8,[]),(9,[]),(10,[]),(11,[]),(12,[]),(13,[]),(14,[]),(15,[]),(16,[]),(17,[]),(18,[]),(19,[])] else[])
def Ri (x0:AV):Prog:=.op (.box x0) fun a=>Lg 1 a fun b=>Ln 0 b fun b=>Bn .neq b (.int .i64 8) fun b=>Gf b false 2 a fun c=>.gop b false (.len 0 c) fun c=>.gop b false (.bin 0 .neq c (.int .i64 8)) fun c=>Pk b (.bool true) c fun b=>Gf b false 0 a fun c=>.gop b false (.call bQ [c,.int .i64 0,.int .i64 2147483647]) fun c=>.gop b false (.una .not c) fun c=>Pk b (.bool true) c fun b=>.gop b false (.ldn 4 a) fun c=>Gf b false 3 a fun d=>.gop b false (.call uY [c,d,.int .i64 3,.int .i64 0]) fun c=>.gop b false (.una .not c) fun c=>Pk b (.bool true) c fun b=>.ite b (.fin [.val (.bool false)]) (.loop [.int .i64 0] (fun b=>Bn .lss (g b 0) (.int .i64 8) fun c=>.ite c (Ld 4 a fun c=>Lg 1 a fun d=>Ix 1 d (g b 0) fun d=>.op (.ld1 d) fun d=>Cl uY [c,d,.int .i64 1,g b 0] fun c=>.op (.una .not c) fun c=>.gop c false (.ldn 4 a) fun d=>Gf c false 2 a fun a=>.gop c false (.mv (g b 0)) fun e=>.gop c false (.idx 1 a e) fun a=>.gop c false (.ld1 a) fun a=>.gop c false (.mv (g b 0)) fun e=>.gop c false (.call uY [d,a,.int .i64 2,e]) fun a=>.gop c false (.una .not a) fun a=>Pk c (.bool true) a fun a=>.ite a (.fin [.val (.bool false)]) (Bn .add (g b 0) (.int .i64 1) fun a=>.leaf 0 [a])) (.leaf 2 [g b 0])) fun b c=>aB b 1 (.leaf 1 c) (aB b 2 (Ld 4 a fun a=>Cl pX [a] fun a=>.loop [.int .i64 0,.tup []] (fun b=>Ln 0 a fun c=>Bn .lss (g b 0) c fun c=>.ite c (.loop [.int .i64 0] (fun c=>Bn .lss (g c 0) (g b 0) fun d=>.ite d (Ix 3 a (g c 0) fun d=>Lg 0 d fun d=>Ix 3 a (g b 0) fun a=>Lg 0 a fun a=>Bn .eql d a fun a=>.ite a (.fin [.val (.bool false)]) (Bn .add (g c 0) (.int .i64 1) fun a=>.leaf 0 [a])) (.leaf 6 [g c 0])) fun a c=>aB a 1 (.leaf 1 c) (aB a 6 (Bn .add (g b 0) (.int .i64 1) fun a=>.leaf 0 [a,g c 0]) .bad)) (.leaf 4 [g b 0,g b 1])) fun b c=>aB b 1 (.leaf 1 c) (aB b 4 (Ln 0 a fun a=>Bn .leq a (.int .i64 16) fun a=>.fin [.val a]) .bad)) .bad))
theorem afb (x0:AV):CC Tryz.prog kZ [x0] (Ri x0):=cc Tryz.func156 [1,3,4,5,6] (fun r=>if r=6 then[(0,[]),(1,[]),(2,[]),(3,[]),(4,[]),(5,[]),(6,[]),(7,[]),(8,[]),(9,[]),(10,[]),(11,[]),(12,[]),(13,[]),(14,[]),(15,[]),(16,[]),(17,[]),(18,[]),(19,[])] else if r=15 then[(0,[]),(1,[]),(2,[]),(3,[]),(4,[]),(5,[]),(6,[]),(7,[]),(8,[]),(9,[]),(10,[])] else[])
end
def timers (w:bX):List Ab.Timer:=(w.near.flatten++w.far.flatten)++w.rest
theorem HZ {l:List (List Ab.Timer)} {i:Nat} {x:List Ab.Timer} (ht:l.take (i+1)=l.take i++[x]):(l.take (i+1)).flatten=(l.take i).flatten++x:=by rw[ht];simp
theorem nI:∀ l:List (List Ab.Timer),l.flatten.length≤szs l
 |[]=>by simp
 |x::l=>by
  have:=nI l
  have h2:Sz.sz x=x.length+szs x:=rfl
  simp only[List.flatten_cons,List.length_append,szs];omega
theorem EW {h:AH} {w:bX} {v0 v1 v2:AV} {F0 F1 F2:List Nat} (hs:Sz.sz w≤67108864) (r0:au h v0 w.near F0) (r1:au h v1 w.far F1) (r2:au h v2 w.rest F2):bN Tryz.prog vw [.agg (w.cs v0 v1 v2)] h (oz Ab.Timer h (timers w)):=by
 have hsz:Sz.sz w=(w.near.length+szs w.near)+(w.far.length+szs w.far)+(w.rest.length+szs w.rest):=rfl
 refine ahI _ ?_
 unfold TI
 have hb0:=nI w.near
 have hb1:=nI w.far
 (repeat' first|refine vs ?_|fail)
 refine aT w.near.length (fun i vs h1=>∃ u G,vs=[u,.int .i64 (i:Int)]∧i≤w.near.length∧Ext (h.push ⟨w.cs v0 v1 v2,0,0⟩) h1∧au h1 u (w.near.take i).flatten G∧Own (h.n+1) h1 G) ⟨.aC,[],rfl,Nat.zero_le _,aD,au.aC,Own.nil⟩ ?_
 rintro i vs h1 _ ⟨u,G,rfl,hi,e1,ru,ou⟩
 have n1:=e1.1
 simp only[aH] at n1
 simp only[g0,g1]
 have hb:=nI (w.near.take i)
 have hle:=jJ w.near i
 refine br (fun hlt=>?_) (fun hge=>?_)
 ·obtain⟨x,hx,-,htk⟩:=aP (show i < w.near.length by omega)
  have hm:=bC (List.mem_of_getElem? hx)
  have hx2:Sz.sz x=x.length+szs x:=rfl
  refine vs ?_
  refine bV r0 hx rfl ?_
  rintro b o _ Fi a ⟨vx,rfl,rx⟩ _
  (repeat' first|refine vs ?_|fail)
  refine rD (n:=h.n+1) (xs:=(w.near.take i).flatten) (ys:=x) (Fx:=G) ah (ah:au _ vx x Fi) bA aO rfl ?_ ?_ ?_
  ·omega
  ·omega
  intro u' h' F' ek kp r' o'
  (repeat' first|refine vs ?_|fail)
  exact⟨by omega,u',F',rfl,by omega,ek _ e1 (by simp only[aH];omega),by rw[HZ htk];exact r',o'⟩
 ·have e:i=w.near.length:=by omega
  rw[e,List.take_length] at ru
  clear hb hle
  (repeat' first|refine vs ?_|refine gS ?_|fail)
  refine aT w.far.length (fun i vs h1=>∃ u G,vs=[u,.int .i64 (i:Int)]∧i≤w.far.length∧Ext (h.push ⟨w.cs v0 v1 v2,0,0⟩) h1∧au h1 u (w.near.flatten++(w.far.take i).flatten) G∧Own (h.n+1) h1 G) ⟨u,G,rfl,Nat.zero_le _,e1,by simpa using ru,ou⟩ ?_
  clear ru ou e1 n1
  rintro i vs h1 _ ⟨u,G,rfl,hi,e1,ru,ou⟩
  have n1:=e1.1
  simp only[aH] at n1
  simp only[g0,g1]
  have hb:=nI (w.far.take i)
  have hle:=jJ w.far i
  refine br (fun hlt=>?_) (fun hge=>?_)
  ·obtain⟨x,hx,-,htk⟩:=aP (show i < w.far.length by omega)
   have hm:=bC (List.mem_of_getElem? hx)
   have hx2:Sz.sz x=x.length+szs x:=rfl
   refine vs ?_
   refine bV r1 hx rfl ?_
   rintro b o _ Fi a ⟨vx,rfl,rx⟩ _
   (repeat' first|refine vs ?_|fail)
   refine rD (n:=h.n+1) (xs:=w.near.flatten++(w.far.take i).flatten) (ys:=x) (Fx:=G) ah (ah:au _ vx x Fi) bA aO rfl ?_ ?_ ?_
   ·rw[List.length_append];omega
   ·rw[List.length_append];omega
   intro u' h' F' ek kp r' o'
   (repeat' first|refine vs ?_|fail)
   exact⟨by omega,u',F',rfl,by omega,ek _ e1 (by simp only[aH];omega),by rw[HZ htk,←List.append_assoc];exact r',o'⟩
  ·have e:i=w.far.length:=by omega
   rw[e,List.take_length] at ru
   (repeat' first|refine vs ?_|refine gS ?_|fail)
   refine rD (n:=h.n+1) (xs:=w.near.flatten++w.far.flatten) (ys:=w.rest) (Fx:=G) ah (ah:au _ v2 w.rest F2) bA aO rfl ?_ ?_ ?_
   ·rw[List.length_append];omega
   ·rw[List.length_append];omega
   intro u' h' F' ek kp r' o'
   (repeat' first|refine vs ?_|fail)
   exact⟨rfl,_,rfl,ek _ aD (by omega),_,r',o'.mono (by omega) fun _ _=>rfl⟩
theorem xC {h:AH} {w:bX} {v0 v1 v2:AV} {F0 F1 F2:List Nat} (hs:Sz.sz w≤67108864) (r0:au h v0 w.near F0) (r1:au h v1 w.far F1) (r2:au h v2 w.rest F2):bN Tryz.prog pX [.agg (w.cs v0 v1 v2)] h (oz Ab.Timer h (timers w)):=by
 have hsz:Sz.sz w=(w.near.length+szs w.near)+(w.far.length+szs w.far)+(w.rest.length+szs w.rest):=rfl
 refine ag8 _ ?_
 unfold SK
 have hb0:=nI w.near
 have hb1:=nI w.far
 have hl0:=r0.small
 have hl1:=r1.small
 refine vs ?_
 obtain⟨re,oe⟩:=jy (h:=h.push ⟨w.cs v0 v1 v2,0,0⟩) (α:=Ab.Timer) (w:=3) rfl
 refine aT w.near.length (fun i vs h1=>∃ u G,vs=[u,.int .i64 (i:Int)]∧i≤w.near.length∧Ext (h.push ⟨w.cs v0 v1 v2,0,0⟩) h1∧au h1 u (w.near.take i).flatten G∧Own (h.n+1) h1 G) ⟨_,_,rfl,Nat.zero_le _,aD,re,oe _ (Nat.le_refl _)⟩ ?_
 rintro i vs h1 _ ⟨u,G,rfl,hi,e1,ru,ou⟩
 have n1:=e1.1
 simp only[aH] at n1
 simp only[g0,g1]
 have hb:=nI (w.near.take i)
 have hle:=jJ w.near i
 refine vs ?_
 refine br (fun hlt=>?_) (fun hge=>?_)
 ·obtain⟨x,hx,-,htk⟩:=aP (show i < w.near.length by omega)
  have hm:=bC (List.mem_of_getElem? hx)
  have hx2:Sz.sz x=x.length+szs x:=rfl
  refine vs ?_
  refine bV r0 hx rfl ?_
  rintro b o _ Fi a ⟨vx,rfl,rx⟩ _
  (repeat' first|refine vs ?_|fail)
  refine rD (n:=h.n+1) (xs:=(w.near.take i).flatten) (ys:=x) (Fx:=G) ah (ah:au _ vx x Fi) bA aO rfl ?_ ?_ ?_
  ·omega
  ·omega
  intro u' h' F' ek kp r' o'
  (repeat' first|refine vs ?_|fail)
  exact⟨by omega,u',F',rfl,by omega,ek _ e1 (by simp only[aH];omega),by rw[HZ htk];exact r',o'⟩
 ·have e:i=w.near.length:=by omega
  rw[e,List.take_length] at ru
  clear hb hle
  (repeat' first|refine vs ?_|refine gS ?_|fail)
  refine aT w.far.length (fun i vs h1=>∃ u G,vs=[u,.int .i64 (i:Int)]∧i≤w.far.length∧Ext (h.push ⟨w.cs v0 v1 v2,0,0⟩) h1∧au h1 u (w.near.flatten++(w.far.take i).flatten) G∧Own (h.n+1) h1 G) ⟨u,G,rfl,Nat.zero_le _,e1,by simpa using ru,ou⟩ ?_
  clear ru ou e1 n1
  rintro i vs h1 _ ⟨u,G,rfl,hi,e1,ru,ou⟩
  have n1:=e1.1
  simp only[aH] at n1
  simp only[g0,g1]
  have hb:=nI (w.far.take i)
  have hle:=jJ w.far i
  refine vs ?_
  refine br (fun hlt=>?_) (fun hge=>?_)
  ·obtain⟨x,hx,-,htk⟩:=aP (show i < w.far.length by omega)
   have hm:=bC (List.mem_of_getElem? hx)
   have hx2:Sz.sz x=x.length+szs x:=rfl
   refine vs ?_
   refine bV r1 hx rfl ?_
   rintro b o _ Fi a ⟨vx,rfl,rx⟩ _
   (repeat' first|refine vs ?_|fail)
   refine rD (n:=h.n+1) (xs:=w.near.flatten++(w.far.take i).flatten) (ys:=x) (Fx:=G) ah (ah:au _ vx x Fi) bA aO rfl ?_ ?_ ?_
   ·rw[List.length_append];omega
   ·rw[List.length_append];omega
   intro u' h' F' ek kp r' o'
   (repeat' first|refine vs ?_|fail)
   exact⟨by omega,u',F',rfl,by omega,ek _ e1 (by simp only[aH];omega),by rw[HZ htk,←List.append_assoc];exact r',o'⟩
  ·have e:i=w.far.length:=by omega
   rw[e,List.take_length] at ru
   (repeat' first|refine vs ?_|refine gS ?_|fail)
   refine rD (n:=h.n+1) (xs:=w.near.flatten++w.far.flatten) (ys:=w.rest) (Fx:=G) ah (ah:au _ v2 w.rest F2) bA aO rfl ?_ ?_ ?_
   ·rw[List.length_append];omega
   ·rw[List.length_append];omega
   intro u' h' F' ek kp r' o'
   (repeat' first|refine vs ?_|fail)
   exact⟨rfl,_,rfl,ek _ aD (by omega),_,r',o'.mono (by omega) fun _ _=>rfl⟩
def jF (now kind slot:Int) (t:Ab.Timer):Prop:=1≤t.id∧(1≤t.trace∧t.trace≤999)∧now < t.at_∧t.at_≤2147483647∧
 ((kind=0∧t.at_ / 8=now / 8∧t.at_ % 8=slot)∨(kind=1∧1≤t.at_ / 8 - now / 8∧t.at_ / 8 - now / 8≤7∧t.at_ / 8 % 8=slot)∨(kind=2∧8≤t.at_ / 8 - now / 8))
theorem tm8 {a:Int} (h:0≤a):a.tmod 8=a % 8:=Int.tmod_eq_emod_of_nonneg h
theorem QN {h:AH} {w:bX} {l:List Ab.Timer} {v v0 v1 v2:AV} {F:List Nat} {kind slot:Int} (h0:0≤w.now) (h1:w.now≤2147483647) (hk:kind=0∨kind=1∨kind=2) (r:au h v l F):aM Tryz.prog uX [.agg (w.cs v0 v1 v2),v,.int .i64 kind,.int .i64 slot] h (.bool (bp (∀ t∈l,jF w.now kind slot t))):=by
 refine reader (afQ _ _ _ _) (by simp only[old]) ?_
 unfold RN
 have hsm:=r.small
 (repeat' first|refine vs ?_|fail)
 refine aT l.length (fun i vs h1=>∃ z,vs=[z,.int .i64 (i:Int)]∧i≤l.length∧Ext (h.push ⟨w.cs v0 v1 v2,0,0⟩) h1∧cu l (fun _ t=>jF w.now kind slot t) i) ⟨_,rfl,Nat.zero_le _,aD,up0⟩ ?_
 rintro i vs h2 _ ⟨z,rfl,hi,e1,hu⟩
 simp only[g0,g1]
 refine br (fun hlt=>?_) (fun hge=>?_)
 ·obtain⟨x,hx,-,-⟩:=aP (show i < l.length by omega)
  (repeat' first|refine vs ?_|(refine br ?_ ?_<;>first|exact bo|intro _)|((with_reducible refine aA bq ?_);(refine bU eZ ?_ ?_<;>intro hb<;>(first|replace hb:=dx hb|replace hb:=dz hb)))|((with_reducible refine aY ?_);((refine ix ?_);rintro _ _ _ _ _ ⟨rfl,rfl⟩ _))|refine gS ?_|fail)
  all_goals(have t1:=tm8 (a:=x.at_);have t2:=tm8 (a:=x.at_ / 8))
  all_goals first
   |exact pf fun k=>jP hx (by unfold jF;omega) k
   |exact⟨by omega,_,rfl,by omega,aD,upS hu hx (by unfold jF;omega)⟩
 ·(repeat' first|refine vs ?_|fail)
  rw[show i=l.length by omega] at hu
  exact pt (fV hu)
theorem Eb {h:AH} {now at_:Int}:0≤now→now≤2147483647→0≤at_→at_≤2147483647→aM Tryz.prog sF [.int .i64 now,.int .i64 at_] h (.tup [.int .i64 (if at_ / 8=now / 8 then 1 else if at_ / 8 - now / 8 < 8 then 2 else 3),.int .i64 (if at_ / 8=now / 8 then at_ % 8 else if at_ / 8 - now / 8 < 8 then at_ / 8 % 8 else 0)]):=by
 intro h0 h1 h2 h3
 refine reader (aeV _ _) (by simp[old,olds]) ?_
 unfold QV
 have t1:=tm8 (a:=at_) h2
 have t2:=tm8 (a:=at_ / 8) (by omega)
 (repeat' first|refine vs ?_|(refine br ?_ ?_<;>first|exact bx|intro _)|fail)
 all_goals(refine⟨rfl,?_,Ext.refl _⟩;first|(simp_all;done)|(simp_all;omega))
theorem Kv {h:AH} {w:bX} {l:List Ab.Timer} {v v0 v1 v2:AV} {F:List Nat} {kind slot k1:Int} (h0:0≤w.now) (h1:w.now≤2147483647) (hk:kind=0∨kind=1∨kind=2∧slot=0) (hk1:k1=kind+1) (r:au h v l F):aM Tryz.prog uY [.agg (w.cs v0 v1 v2),v,.int .i64 k1,.int .i64 slot] h (.bool (bp (∀ t∈l,jF w.now kind slot t))):=by
 subst hk1
 refine reader (agX _ _ _ _) (by simp only[old]) ?_
 unfold Sy
 have hsm:=r.small
 (repeat' first|refine vs ?_|fail)
 refine aT l.length (fun i vs h1=>vs=[.int .i64 (i:Int)]∧i≤l.length∧Ext (h.push ⟨w.cs v0 v1 v2,0,0⟩) h1∧cu l (fun _ t=>jF w.now kind slot t) i) ⟨rfl,Nat.zero_le _,aD,up0⟩ ?_
 rintro i vs h2 _ ⟨rfl,hi,e1,hu⟩
 simp only[g0]
 refine vs ?_
 refine br (fun hlt=>?_) (fun hge=>?_)
 ·obtain⟨x,hx,-,-⟩:=aP (show i < l.length by omega)
  (repeat' first|refine vs ?_|(refine br ?_ ?_<;>first|exact bx|intro _)|((with_reducible refine aA bQ ?_);(refine bU jr ?_ ?_<;>intro hb<;>(first|replace hb:=dx hb|replace hb:=dz hb)))|((with_reducible refine aA sF ?_);(refine aJ (Eb (by omega) (by omega) (by omega) (by omega)) ?_))|((with_reducible refine aY ?_);((refine ix ?_);rintro _ _ _ _ _ ⟨rfl,rfl⟩ _))|fail)
  all_goals first
   |exact pf fun k=>jP hx (by unfold jF;omega) k
   |exact⟨by omega,rfl,by omega,aD,upS hu hx (by unfold jF;omega)⟩
 ·(repeat' first|refine vs ?_|fail)
  rw[show i=l.length by omega] at hu
  exact pt (fV hu)
def ji (k:Int) (t:Ab.Timer):Bool:=decide (t.id=k)
theorem aiI {h:AH} {b:Nat} {k:Int} (a:At h b 0 [.int .i64 k]):Looks Ab.Timer Tryz.prog h Jt [.ptr b 0] (ji k):=by
 rintro x cs F ⟨rfl,rfl⟩
 refine reader (ab0 _ _) (by simp only[old]) ?_
 unfold Pg
 (repeat' first|refine vs ?_|(refine br ?_ ?_<;>first|exact bx|intro _)|fail)
 all_goals(refine pb ?_;simp[ji, *])
theorem Ja {h:AH} {xs:List Ab.Timer} {x0:AV} {F:List Nat} {f:FuncId} {caps:List AV} {p:Ab.Timer→Bool} (r:au h x0 xs F) (hf:Looks Ab.Timer Tryz.prog h f caps p):
  aM Tryz.prog uJ [x0,.fn f caps] h (.int .i64 (idx p xs)):=
 reader (ZY _ _) (by simp only[old]) (Gb (w:=3) rfl r hf)
theorem J3 {h:AH} {xs:List Ab.Timer} {x0:AV} {F:List Nat} {k:Int} (r:au h x0 xs F):aM Tryz.prog uW [x0,.int .i64 k] h (.int .i64 (idx (ji k) xs)):=by
 refine reader (afL _ _) (by simp only[old]) ?_
 unfold RG
 (repeat' first|refine vs ?_|((with_reducible refine aA uJ ?_);refine aJ (Ja ah (aiI jY)) ?_)|fail)
 exact pi rfl
def alo {α:Type} (f:α→Int) (l:List α):Prop:=∀ (i:Nat) (x:α),l[i]? =some x→∀ (j:Nat) (y:α),j < i→l[j]? =some y→f y≠f x
theorem aj2 {α:Type} {p:α→Bool} {l:List α} {i:Nat} {x:α} (hx:l[i]? =some x) (hp:p x=true):idx p l=i↔∀ (j:Nat) (y:α),j < i→l[j]? =some y→p y=false:=by
 constructor
 ·intro h j y hj hy
  rcases xY p l with⟨e,-⟩|⟨k,z,e,hz,hpz,hf⟩
  ·omega
  ·have:k=i:=by omega
   subst this
   rw[List.filter_eq_self] at hf
   have hm:y∈l.take k:=by
    rw[List.mem_iff_getElem?]
    exact⟨j,by rw[List.getElem?_take,if_pos hj];exact hy⟩
   simpa using hf y hm
 ·exact fun h=>wu hx hp h
def jg (w:bX):Prop:=(0≤w.now∧w.now≤2147483647)∧(w.near.length:Int)=8∧(w.far.length:Int)=8∧(∀ t∈w.rest,jF w.now 2 0 t)∧
 (∀ (i:Nat) (a b:List Ab.Timer),w.near[i]? =some a→w.far[i]? =some b→(∀ t∈a,jF w.now 0 i t)∧∀ t∈b,jF w.now 1 i t)∧alo (·.id) (timers w)∧((timers w).length:Int)≤16
theorem ajo (t:Ab.Timer):ji t.id t=true:=by simp[ji]
theorem sD {h:AH} {w:bX} {v0 v1 v2:AV} {F0 F1 F2:List Nat} (hs:Sz.sz w≤67108864) (r0:au h v0 w.near F0) (r1:au h v1 w.far F1) (r2:au h v2 w.rest F2):aM Tryz.prog lg [.agg (w.cs v0 v1 v2)] h (.bool (bp (jg w))):=by
 refine reader (afS _) (by simp only[old]) ?_
 unfold RP
 (repeat' first|refine vs ?_|(refine br ?_ ?_<;>first|exact bx|intro _)|((with_reducible refine aA bq ?_);(refine bU eZ ?_ ?_<;>intro hb<;>(first|replace hb:=dx hb|replace hb:=dz hb)))|((with_reducible refine aA uX ?_);(refine aS (QN (w:=w) (by omega) (by omega) (by omega) ah) ?_ ?_<;>intro hn))|fail)
 all_goals first
  |exact pf fun k=>by obtain⟨a1,a2,a3,a4,-⟩:=k;first|omega|contradiction
  |skip
 have kV:=hb
 have hrest:=hn
 refine aT 8 (fun i vs h1=>vs=[.int .i64 (i:Int)]∧i≤8∧Ext (h.push ⟨w.cs v0 v1 v2,0,0⟩) h1∧∀ (j:Nat) (a b:List Ab.Timer),j < i→w.near[j]? =some a→w.far[j]? =some b→(∀ t∈a,jF w.now 0 j t)∧∀ t∈b,jF w.now 1 j t) ⟨rfl,Nat.zero_le _,aD,fun j a b hj=>by omega⟩ ?_
 rintro i vs h1 _ ⟨rfl,hi,e1,hu⟩
 simp only[g0]
 refine br (fun hlt=>?_) (fun hge=>?_)
 ·obtain⟨x,hx,-,-⟩:=aP (show i < w.near.length by omega)
  obtain⟨y,hy,-,-⟩:=aP (show i < w.far.length by omega)
  (repeat' first|refine vs ?_|((with_reducible refine aA uX ?_);(refine aS (QN (w:=w) (by omega) (by omega) (by omega) ah) ?_ ?_<;>intro hn))|((with_reducible refine aY ?_);((refine ix ?_);rintro _ _ _ _ _ ⟨_,rfl,_⟩ _))|fail)
  all_goals first
   |exact pf fun k=>by have k:=k.2.2.2.2.1 i x y hx hy;first|exact absurd k.1 (by assumption)|exact absurd k.2 (by assumption)
   |skip
  refine⟨by omega,rfl,by omega,aD,fun j a b hj ha hb=>?_⟩
  by_cases e:j=i
  ·subst e;rw[hx] at ha;rw[hy] at hb;cases ha;cases hb
   exact⟨by assumption,by assumption⟩
  ·exact hu j a b (by omega) ha hb
 ·(repeat' first|refine vs ?_|fail)
  refine aK (EW hs ah ah ah) ?_
  rintro w1 h2 ⟨e2,G1,q1,o1⟩
  refine bP q1 ?_
  have hsm:=q1.small
  refine aT (timers w).length (fun i vs h3=>vs=[.int .i64 (i:Int)]∧i≤(timers w).length∧Ext h2 h3∧cu (timers w) (fun i x=>∀ (j:Nat) (y:Ab.Timer),j < i→(timers w)[j]? =some y→y.id≠x.id) i) ⟨rfl,Nat.zero_le _,Ext.refl _,up0⟩ ?_
  rintro k vs h3 _ ⟨rfl,hk,e3,hu3⟩
  simp only[g0]
  refine br (fun hlt=>?_) (fun NP=>?_)
  ·obtain⟨x,hx,-,-⟩:=aP (show k < (timers w).length by omega)
   have hf:=aj2 hx (ajo x)
   refine vs ?_
   refine bV q1 hx rfl ?_
   rintro b o _ Fi a ⟨rfl,rfl⟩ _
   (repeat' first|refine vs ?_|(refine br ?_ ?_<;>first|exact bx|intro _)|((with_reducible refine aA uW ?_);refine aJ (J3 ah) ?_)|fail)
   ·rename_i hne
    exact pf fun kk=>hne (hf.2 fun j y hj hy=>by have:=kk.2.2.2.2.2.1 k x hx j y hj hy;simpa[ji] using this)
   ·rename_i heq
    exact⟨by omega,rfl,by omega,aD,upS hu3 hx fun j y hj hy=>by have:=hf.1 heq j y hj hy;simpa[ji] using this⟩
  ·rw[show k=(timers w).length by omega] at hu3
   have hu3:=kP hu3
   (repeat' first|refine vs ?_|(refine br ?_ ?_<;>first|exact bx|intro _)|fail)
   ·exact pt ⟨kV,by omega,by omega,hrest,fun i' a b ha hb=>hu i' a b (by have:=(List.getElem?_eq_some_iff.1 ha).1;omega) ha hb,hu3,by omega⟩
   ·exact pf fun kk=>by have:=kk.2.2.2.2.2.2;omega
theorem sw {h:AH} {w:bX} {v0 v1 v2:AV} {F0 F1 F2:List Nat} (hs:Sz.sz w≤67108864) (r0:au h v0 w.near F0) (r1:au h v1 w.far F1) (r2:au h v2 w.rest F2):aM Tryz.prog kZ [.agg (w.cs v0 v1 v2)] h (.bool (bp (jg w))):=by
 refine reader (afb _) (by simp only[old]) ?_
 unfold Ri
 (repeat' first|refine vs ?_|(refine br ?_ ?_<;>first|exact bx|intro _)|((with_reducible refine aA bQ ?_);(refine bU jr ?_ ?_<;>intro hb<;>(first|replace hb:=dx hb|replace hb:=dz hb)))|((with_reducible refine aA uY ?_);(refine aS (Kv (w:=w) (kind:=2) (by omega) (by omega) (by omega) (by rfl) ah) ?_ ?_<;>intro hn))|fail)
 all_goals first
  |exact pf fun k=>by obtain⟨a1,a2,a3,a4,-⟩:=k;first|omega|contradiction
  |skip
 have kV:=hb
 have hrest:=hn
 refine aT 8 (fun i vs h1=>vs=[.int .i64 (i:Int)]∧i≤8∧Ext (h.push ⟨w.cs v0 v1 v2,0,0⟩) h1∧∀ (j:Nat) (a b:List Ab.Timer),j < i→w.near[j]? =some a→w.far[j]? =some b→(∀ t∈a,jF w.now 0 j t)∧∀ t∈b,jF w.now 1 j t) ⟨rfl,Nat.zero_le _,aD,fun j a b hj=>by omega⟩ ?_
 rintro i vs h1 _ ⟨rfl,hi,e1,hu⟩
 simp only[g0]
 refine br (fun hlt=>?_) (fun hge=>?_)
 ·obtain⟨x,hx,-,-⟩:=aP (show i < w.near.length by omega)
  obtain⟨y,hy,-,-⟩:=aP (show i < w.far.length by omega)
  (repeat' first|refine vs ?_|((with_reducible refine aA uY ?_);((first|refine bU (Kv (w:=w) (kind:=0) (l:=x) (by omega) (by omega) (by omega) (by rfl) ah) ?_ ?_|refine bU (Kv (w:=w) (kind:=1) (l:=y) (by omega) (by omega) (by omega) (by rfl) ah) ?_ ?_)<;>intro hn<;>first|replace hn:=tH hn|replace hn:=Gr hn))|((with_reducible refine aY ?_);((refine ix ?_);rintro _ _ _ _ _ ⟨_,rfl,_⟩ _))|fail)
  all_goals first
   |exact pf fun k=>by have k:=k.2.2.2.2.1 i x y hx hy;first|exact absurd k.1 (by assumption)|exact absurd k.2 (by assumption)
   |skip
  refine⟨by omega,rfl,by omega,aD,fun j a b hj ha hb=>?_⟩
  by_cases e:j=i
  ·subst e;rw[hx] at ha;rw[hy] at hb;cases ha;cases hb
   exact⟨by assumption,by assumption⟩
  ·exact hu j a b (by omega) ha hb
 ·(repeat' first|refine vs ?_|fail)
  refine aK (xC hs ah ah ah) ?_
  rintro w1 h2 ⟨e2,G1,q1,o1⟩
  have hsm:=q1.small
  refine aT (timers w).length (fun i vs h3=>∃ z,vs=[.int .i64 (i:Int),z]∧i≤(timers w).length∧h3=h2∧cu (timers w) (fun i x=>∀ (j:Nat) (y:Ab.Timer),j < i→(timers w)[j]? =some y→y.id≠x.id) i) ⟨_,rfl,Nat.zero_le _,rfl,up0⟩ ?_
  rintro k vs h3 _ ⟨z,rfl,hk,rfl,hu3⟩
  simp only[g0]
  refine bP q1 ?_
  refine br (fun hlt=>?_) (fun NP=>?_)
  ·obtain⟨x,hx,-,-⟩:=aP (show k < (timers w).length by omega)
   refine dM ?_
   refine aT k (fun j vs h4=>vs=[.int .i64 (j:Int)]∧j≤k∧h4=h3∧∀ (m:Nat) (y:Ab.Timer),m < j→(timers w)[m]? =some y→y.id≠x.id) ⟨rfl,Nat.zero_le _,rfl,fun m y hm=>by omega⟩ ?_
   rintro j vs h4 _ ⟨rfl,hj,rfl,hu4⟩
   simp only[g0]
   refine br (fun anN=>?_) (fun hge4=>?_)
   ·obtain⟨y,hy,-,-⟩:=aP (show j < (timers w).length by omega)
    (repeat' first|refine vs ?_|(refine br ?_ ?_<;>first|exact bx|intro _)|((with_reducible refine aY ?_);((refine ix ?_);rintro _ _ _ _ _ ⟨rfl,rfl⟩ _))|fail)
    ·rename_i he
     exact pf fun kk=>kk.2.2.2.2.2.1 k x hx j y (by omega) hy he
    ·rename_i he
     refine⟨by omega,rfl,by omega,rfl,fun m z hm hz=>?_⟩
     by_cases e:m=j
     ·subst e;rw[hy] at hz;cases hz;exact he
     ·exact hu4 m z (by omega) hz
   ·have e:j=k:=by omega
    subst e
    (repeat' first|refine vs ?_|fail)
    exact⟨by omega,_,rfl,by omega,rfl,upS hu3 hx hu4⟩
  ·rw[show k=(timers w).length by omega] at hu3
   have hu3:=kP hu3
   (repeat' first|refine vs ?_|(refine br ?_ ?_<;>first|exact bx|intro _)|fail)
   ·exact pt ⟨kV,by omega,by omega,hrest,fun i' a b ha hb=>hu i' a b (by have:=(List.getElem?_eq_some_iff.1 ha).1;omega) ha hb,hu3,by omega⟩
   ·exact pf fun kk=>by have:=kk.2.2.2.2.2.2;omega
end Go.Proofs.YtkdjapahgmflbaaGreat
end
section
set_option maxHeartbeats 2000000
namespace Go.Proofs.YtkdjapahgmflbaaGreat
open Go Go.Ab
section
def OB (x0 x1:AV):Prog:=.op (.box x0) fun a=>Lg 0 a fun a=>.op (.ld1 x1) fun b=>Bn .eql a b fun a=>.fin [.val a]
theorem aaA (x0 x1:AV):CC Tryz.prog Jd [x0,x1] (OB x0 x1):=cc Tryz.func370
def ZK (x0 x1:AV):Prog:=Ln 0 x0 fun a=>.loop [.int .i64 0] (fun b=>Bn .lss (g b 0) a fun a=>.ite a (Ix 3 x0 (g b 0) fun a=>Ld 3 a fun a=>.op (.iC x1 [a]) fun a=>.ite a (.fin [.val (g b 0)]) (Bn .add (g b 0) (.int .i64 1) fun a=>.leaf 0 [a])) (.leaf 2 [g b 0])) fun a b=>aB a 1 (.leaf 1 b) (aB a 2 (.fin [.val (.int .i64 (-1))]) .bad)
theorem ZM (x0 x1:AV):CC Tryz.prog zL [x0,x1] (ZK x0 x1):=cc Tryz.func369 [0,1,7,8] (fun _=>[])
def Pf (x0 x1:AV):Prog:=.op (.box x1) fun a=>.op (.kr Jd [a]) fun a=>Cl zL [x0,a] fun a=>.fin [.val a]
theorem abZ (x0 x1:AV):CC Tryz.prog zX [x0,x1] (Pf x0 x1):=cc Tryz.func308
def R7 (x0 x1:AV):Prog:=Ln 0 x0 fun a=>.loop [.int .i64 0] (fun b=>Bn .lss (g b 0) a fun a=>.ite a (Ix 3 x0 (g b 0) fun a=>Ld 3 a fun a=>.op (.alloc [.int .i64 0,.int .i64 0,.bool false]) fun c=>.op (.st 3 c a) fun _=>Lg 0 c fun a=>Cl bq [a,.int .i64 1,.int .i64 999] fun a=>.op (.una .not a) fun a=>Gf a false 1 c fun d=>.gop a false (.bin 0 .lss d (.int .i64 1)) fun d=>Pk a (.bool true) d fun a=>.gop a false (.mv x0) fun d=>Gf a false 0 c fun c=>.gop a false (.call zX [d,c]) fun c=>.gop a false (.mv (g b 0)) fun d=>.gop a false (.bin 0 .neq c d) fun c=>Pk a (.bool true) c fun a=>.ite a (.fin [.val (.bool false)]) (Bn .add (g b 0) (.int .i64 1) fun a=>.leaf 0 [a])) (.leaf 2 [g b 0])) fun a b=>aB a 1 (.leaf 1 b) (aB a 2 (Ln 0 x0 fun a=>Bn .leq a x1 fun a=>.fin [.val a]) .bad)
theorem af4 (x0 x1:AV):CC Tryz.prog EM [x0,x1] (R7 x0 x1):=cc Tryz.func214 [0,1,7,8,9] (fun _=>[])
def Rp (x0 x1:AV):Prog:=.loop [.int .i64 0,.tup []] (fun a=>Ln 0 x0 fun b=>Bn .lss (g a 0) b fun b=>.ite b (Ix 3 x0 (g a 0) fun b=>Lg 0 b fun b=>Cl bQ [b,.int .i64 1,.int .i64 999] fun b=>.op (.una .not b) fun b=>.gop b false (.mv x0) fun c=>.gop b false (.mv (g a 0)) fun d=>.gop b false (.idx 3 c d) fun c=>Gf b false 1 c fun c=>.gop b false (.bin 0 .lss c (.int .i64 1)) fun c=>Pk b (.bool true) c fun b=>.ite b (.fin [.val (.bool false)]) (.loop [.int .i64 0] (fun b=>Bn .lss (g b 0) (g a 0) fun c=>.ite c (Ix 3 x0 (g b 0) fun c=>Lg 0 c fun c=>Ix 3 x0 (g a 0) fun a=>Lg 0 a fun a=>Bn .eql c a fun a=>.ite a (.fin [.val (.bool false)]) (Bn .add (g b 0) (.int .i64 1) fun a=>.leaf 0 [a])) (.leaf 4 [g b 0])) fun b c=>aB b 1 (.leaf 1 c) (aB b 4 (Bn .add (g a 0) (.int .i64 1) fun a=>.leaf 0 [a,g c 0]) .bad))) (.leaf 2 [g a 0,g a 1])) fun a b=>aB a 1 (.leaf 1 b) (aB a 2 (Ln 0 x0 fun a=>Bn .leq a x1 fun a=>.fin [.val a]) .bad)
theorem afi (x0 x1:AV):CC Tryz.prog En [x0,x1] (Rp x0 x1):=cc Tryz.func154 [0,1,5,6] (fun r=>if r=9 then[(0,[]),(1,[]),(2,[]),(3,[]),(4,[]),(5,[]),(6,[]),(7,[]),(8,[]),(9,[]),(10,[])] else[])
def QD (x0:AV):Prog:=.op (.box x0) fun a=>Lg 0 a fun b=>Cl bq [b,.int .i64 0,.int .i64 99] fun b=>Gf b true 1 a fun c=>.gop b true (.call bq [c,.int .i64 0,.int .i64 999]) fun c=>Pk b c (.bool false) fun b=>Gf b true 2 a fun c=>Gf b true 1 a fun d=>.gop b true (.call bq [c,.int .i64 0,d]) fun c=>Pk b c (.bool false) fun b=>Gf b true 3 a fun a=>.gop b true (.call bq [a,.int .i64 0,.int .i64 2147483647]) fun a=>Pk b a (.bool false) fun a=>.fin [.val a]
theorem adN (x0:AV):CC Tryz.prog pW [x0] (QD x0):=cc Tryz.func133
def Qd (x0:AV):Prog:=.op (.box x0) fun a=>Lg 0 a fun b=>Cl bQ [b,.int .i64 0,.int .i64 99] fun b=>Gf b true 1 a fun c=>.gop b true (.call bQ [c,.int .i64 0,.int .i64 999]) fun c=>Pk b c (.bool false) fun b=>Gf b true 2 a fun c=>Gf b true 1 a fun d=>.gop b true (.call bQ [c,.int .i64 0,d]) fun c=>Pk b c (.bool false) fun b=>Gf b true 3 a fun a=>.gop b true (.call bQ [a,.int .i64 0,.int .i64 2147483647]) fun a=>Pk b a (.bool false) fun a=>.fin [.val a]
theorem adg (x0:AV):CC Tryz.prog pV [x0] (Qd x0):=cc Tryz.func153
def Pm (x0:AV):Prog:=.op (.box x0) fun a=>Ld 7 a fun a=>Cl xH [a] fun a=>.op (.una .not a) fun a=>.fin [.val a]
theorem ab3 (x0:AV):CC Tryz.prog Du [x0] (Pm x0):=cc Tryz.func310
def Z7 (x0 x1:AV):Prog:=Ln 0 x0 fun a=>.loop [.int .i64 0] (fun b=>Bn .lss (g b 0) a fun a=>.ite a (Ix 7 x0 (g b 0) fun a=>Ld 7 a fun a=>.op (.iC x1 [a]) fun a=>.ite a (.fin [.val (g b 0)]) (Bn .add (g b 0) (.int .i64 1) fun a=>.leaf 0 [a])) (.leaf 2 [g b 0])) fun a b=>aB a 1 (.leaf 1 b) (aB a 2 (.fin [.val (.int .i64 (-1))]) .bad)
theorem aac (x0 x1:AV):CC Tryz.prog CW [x0,x1] (Z7 x0 x1):=cc Tryz.func371 [0,1,7,8] (fun _=>[])
def Ol (x0 x1:AV):Prog:=Cl CW [x0,x1] fun a=>Bn .geq a (.int .i64 0) fun a=>.fin [.val a]
theorem ZO (x0 x1:AV):CC Tryz.prog CS [x0,x1] (Ol x0 x1):=cc Tryz.func309
def RJ (x0:AV):Prog:=.op (.call CS [x0,.fn Du []]) fun a=>.op (.una .not a) fun a=>.fin [.val a]
theorem afO (x0:AV):CC Tryz.prog Ah [x0] (RJ x0):=cc Tryz.func216
end
def isT (k:Int) (v:bJ):Bool:=decide (v.trace=k)
theorem af8 {h:AH} {b:Nat} {k:Int} (a:At h b 0 [.int .i64 k]):Looks bJ Tryz.prog h Jd [.ptr b 0] (isT k):=by
 rintro x cs F ⟨rfl,rfl⟩
 refine reader (aaA _ _) (by simp only[old]) ?_
 unfold OB
 (repeat' first|refine vs ?_|(refine br ?_ ?_<;>first|exact bx|intro _)|fail)
 all_goals(refine pb ?_;simp[isT, *])
theorem Oi {h:AH} {xs:List bJ} {x0:AV} {F:List Nat} {f:FuncId} {caps:List AV} {p:bJ→Bool} (r:au h x0 xs F) (hf:Looks bJ Tryz.prog h f caps p):
  aM Tryz.prog zL [x0,.fn f caps] h (.int .i64 (idx p xs)):=
 reader (ZM _ _) (by simp only[old]) (Gb (w:=3) rfl r hf)
theorem OQ {h:AH} {xs:List bJ} {x0:AV} {F:List Nat} {k:Int} (r:au h x0 xs F):aM Tryz.prog zX [x0,.int .i64 k] h (.int .i64 (idx (isT k) xs)):=by
 refine reader (abZ _ _) (by simp only[old]) ?_
 unfold Pf
 (repeat' first|refine vs ?_|((with_reducible refine aA zL ?_);refine aJ (Oi ah (af8 jY)) ?_)|fail)
 exact pi rfl
def cAt (xs:List bJ) (i:Nat) (v:bJ):Prop:=(1≤v.trace∧v.trace≤999)∧1≤v.stamp∧∀ j u,j < i→xs[j]? =some u→u.trace≠v.trace
def cOk (xs:List bJ) (k:Int):Prop:=(∀ i v,xs[i]? =some v→cAt xs i v)∧(xs.length:Int)≤k
theorem ajp {xs:List bJ} {i:Nat} {x:bJ} (hx:xs[i]? =some x):idx (isT x.trace) xs=i↔∀ j u,j < i→xs[j]? =some u→u.trace≠x.trace:=by
 constructor
 ·intro h j u hj hu he
  unfold idx at h
  split at h
  ·have:j < xs.findIdx (isT x.trace):=by omega
   have:=List.not_of_lt_findIdx this
   have hj':=(List.getElem?_eq_some_iff.1 hu)
   rw[hj'.2] at this
   simp[isT,he] at this
  ·omega
 ·intro h
  exact wu hx (by simp[isT]) fun j u hj hu=>by simpa[isT] using h j u hj hu
theorem aeD {h:AH} {xs:List bJ} {x0:AV} {F:List Nat} {k:Int} (r:au h x0 xs F):aM Tryz.prog EM [x0,.int .i64 k] h (.bool (bp (cOk xs k))):=by
 refine reader (af4 _ _) (by simp only[old]) ?_
 unfold R7
 have hsm:=r.small
 refine bP r (aT xs.length (fun i vs h1=>vs=[.int .i64 (i:Int)]∧i≤xs.length∧Ext h h1∧cu xs (cAt xs) i) ⟨rfl,Nat.zero_le _,Ext.refl _,up0⟩ ?_)
 rintro i vs h1 _ ⟨rfl,hi,e1,hu⟩
 simp only[g0]
 refine br (fun hlt=>?_) (fun hge=>?_)
 ·obtain⟨x,hx,-,-⟩:=aP (show i < xs.length by omega)
  have hf:=ajp hx
  (repeat' first|refine vs ?_|(refine br ?_ ?_<;>first|exact bx|intro _)|((with_reducible refine aA bq ?_);(refine bU eZ ?_ ?_<;>intro hb<;>(first|replace hb:=dx hb|replace hb:=dz hb)))|((with_reducible refine aA zX ?_);refine aJ (OQ ah) ?_)|((with_reducible refine aY ?_);((refine ix ?_);rintro _ _ _ _ _ ⟨rfl,rfl⟩ _))|fail)
  all_goals first
   |exact⟨by omega,rfl,by omega,aD,upS hu hx ⟨by omega,by omega,hf.1 (by assumption)⟩⟩
   |(refine pf fun k=>?_;obtain⟨a1,a2,a3⟩:=k.1 i x hx;first|omega|(have:=hf.2 a3;contradiction))
 ·rw[show i=xs.length by omega] at hu
  have hu:=kP hu
  (repeat' first|refine vs ?_|(refine br ?_ ?_<;>first|exact bx|intro _)|fail)
  all_goals first
   |exact pt ⟨hu,by omega⟩
   |exact pf fun k=>by have:=k.2;omega
theorem ad4 {h:AH} {xs:List bJ} {x0:AV} {F:List Nat} {k:Int} (r:au h x0 xs F):aM Tryz.prog En [x0,.int .i64 k] h (.bool (bp (cOk xs k))):=by
 refine reader (afi _ _) (by simp only[old]) ?_
 unfold Rp
 have hsm:=r.small
 refine aT xs.length (fun i vs h1=>∃ z,vs=[.int .i64 (i:Int),z]∧i≤xs.length∧h1=h∧cu xs (cAt xs) i) ⟨_,rfl,Nat.zero_le _,rfl,up0⟩ ?_
 rintro i vs h1 _ ⟨z,rfl,hi,rfl,hu⟩
 simp only[g0,g1]
 refine bP r ?_
 refine br (fun hlt=>?_) (fun hge=>?_)
 ·obtain⟨x,hx,-,-⟩:=aP (show i < xs.length by omega)
  refine dM ?_
  (repeat' first|refine vs ?_|(refine br ?_ ?_<;>first|exact bx|intro _)|((with_reducible refine aA bQ ?_);(refine bU jr ?_ ?_<;>intro hb<;>(first|replace hb:=dx hb|replace hb:=dz hb)))|((with_reducible refine aY ?_);((refine ix ?_);rintro _ _ _ _ _ ⟨rfl,rfl⟩ _))|fail)
  all_goals first
   |(refine pf fun k=>?_;obtain⟨a1,a2,a3⟩:=k.1 i x hx;omega)
   |skip
  refine aT i (fun j vs h4=>vs=[.int .i64 (j:Int)]∧j≤i∧h4=h1∧∀ (m:Nat) (y:bJ),m < j→xs[m]? =some y→y.trace≠x.trace) ⟨rfl,Nat.zero_le _,rfl,fun m y hm=>by omega⟩ ?_
  rintro j vs h4 _ ⟨rfl,hj,rfl,hu4⟩
  simp only[g0]
  refine br (fun anN=>?_) (fun hge4=>?_)
  ·obtain⟨y,hy,-,-⟩:=aP (show j < xs.length by omega)
   (repeat' first|refine vs ?_|(refine br ?_ ?_<;>first|exact bx|intro _)|((with_reducible refine aY ?_);((refine ix ?_);rintro _ _ _ _ _ ⟨rfl,rfl⟩ _))|fail)
   ·rename_i he
    exact pf fun kk=>(kk.1 i x hx).2.2 j y (by omega) hy he
   ·rename_i he
    refine⟨by omega,rfl,by omega,rfl,fun m z hm hz=>?_⟩
    by_cases e:m=j
    ·subst e;rw[hy] at hz;cases hz;exact he
    ·exact hu4 m z (by omega) hz
  ·have e:j=i:=by omega
   subst e
   (repeat' first|refine vs ?_|fail)
   exact⟨by omega,_,rfl,by omega,rfl,upS hu hx ⟨by omega,by omega,hu4⟩⟩
 ·rw[show i=xs.length by omega] at hu
  have hu:=kP hu
  (repeat' first|refine vs ?_|(refine br ?_ ?_<;>first|exact bx|intro _)|fail)
  all_goals first
   |exact pt ⟨hu,by omega⟩
   |exact pf fun k=>by have:=k.2;omega
def jB (b:Bucket):Prop:=(0≤b.rate∧b.rate≤99)∧(0≤b.bn∧b.bn≤999)∧(0≤b.tokens∧b.tokens≤b.bn)∧(0≤b.at_∧b.at_≤2147483647)
theorem DK {h:AH} {b:Bucket}:aM Tryz.prog pW [.agg b.cs] h (.bool (bp (jB b))):=by
 refine reader (adN _) (by simp only[old,Bucket.cs,olds,and_self]) ?_
 unfold QD
 (repeat' first|refine vs ?_|((with_reducible refine aA bq ?_);(refine bU eZ ?_ ?_<;>intro hb<;>(first|replace hb:=dx hb|replace hb:=dz hb)))|fail)
 all_goals first
  |exact pt (by unfold jB;omega)
  |exact pf (by unfold jB;omega)
theorem DC {h:AH} {b:Bucket}:aM Tryz.prog pV [.agg b.cs] h (.bool (bp (jB b))):=by
 refine reader (adg _) (by simp only[old,Bucket.cs,olds,and_self]) ?_
 unfold Qd
 (repeat' first|refine vs ?_|((with_reducible refine aA bQ ?_);(refine bU jr ?_ ?_<;>intro hb<;>(first|replace hb:=dx hb|replace hb:=dz hb)))|fail)
 all_goals first
  |exact pt (by unfold jB;omega)
  |exact pf (by unfold jB;omega)
noncomputable def yX (x:Itm):Bool:=!bp (lH x)
theorem aiL {h:AH} {x:Itm} {v:AV} {F:List Nat} (ok:Cel.ok x.s) (hs:Sz.sz x.s≤67108864) (r:au h v x.s.attrs F):aM Tryz.prog Du [.agg (x.cs v)] h (.bool (yX x)):=by
 refine reader (ab3 _) (by simp only[old]) ?_
 unfold Pm
 (repeat' first|refine vs ?_|((with_reducible refine aA xH ?_);refine aJ (Sv ok hs ah) ?_)|fail)
 exact pb rfl
theorem Z4 {h:AH} {xs:List Itm} {x0:AV} {F:List Nat} {f:FuncId} {caps:List AV} {p:Itm→Bool} (r:au h x0 xs F) (hf:qP Itm Tryz.prog h f caps xs p):
  aM Tryz.prog CW [x0,.fn f caps] h (.int .i64 (idx p xs)):=
 reader (aac _ _) (by simp only[old]) (VQ (w:=7) rfl r hf)
theorem pz {α:Type} {p:α→Bool} {xs:List α}:0≤idx p xs↔∃ x∈xs,p x=true:=by
 rcases xY p xs with⟨e,hn⟩|⟨i,x,e,hx,hp,-⟩
 ·constructor
  ·intro h;omega
  ·rintro⟨x,hx,hp⟩
   have:x∈xs.filter (fun y=>p y):=List.mem_filter.2 ⟨hx,hp⟩
   exact absurd hp (by simpa using(by simp_all))
 ·exact⟨fun _=>⟨x,List.mem_of_getElem? hx,hp⟩,fun _=>by omega⟩
theorem ZJ {h:AH} {xs:List Itm} {x0:AV} {F:List Nat} {f:FuncId} {caps:List AV} {p:Itm→Bool} (r:au h x0 xs F) (hf:qP Itm Tryz.prog h f caps xs p):
  aM Tryz.prog CS [x0,.fn f caps] h (.bool (bp (∃ x∈xs,p x=true))):=by
 refine reader (ZO _ _) (by simp only[old]) ?_
 unfold Ol
 (repeat' first|refine vs ?_|(refine br ?_ ?_<;>first|exact bx|intro _)|((with_reducible refine aA CW ?_);refine aJ (Z4 ah hf) ?_)|fail)
 ·exact pt (pz.1 (by assumption))
 ·exact pf fun k=>absurd (pz.2 k) (by assumption)
theorem QM {h:AH} {xs:List Itm} {x0:AV} {F:List Nat} (ok:∀ x∈xs,Cel.ok x) (hs:xs.length+szs xs≤67108864) (r:au h x0 xs F):aM Tryz.prog Ah [x0] h (.bool (bp (∀ x∈xs,lH x))):=by
 refine reader (afO _) (by simp only[old]) ?_
 unfold RJ
 have hl:qP Itm Tryz.prog h Du [] xs yX:=by
  rintro x cs F hm ⟨v,rfl,rx⟩
  have hx:=bC hm
  have hx2:Sz.sz x=Sz.sz x.s:=rfl
  exact aiL (ok x hm).2 (by omega) rx
 (repeat' first|refine vs ?_|((with_reducible refine aA CS ?_);refine aJ (ZJ ah hl) ?_)|fail)
 refine pb ?_
 by_cases e:∀ x∈xs,lH x
 ·have: ¬ ∃ x∈xs,yX x=true:=by
   rintro⟨x,hx,hp⟩
   simp[yX,fI (e x hx)] at hp
  rw[fI e,gu this];rfl
 ·suffices hh:∃ x∈xs,yX x=true by rw[gu e,fI hh];rfl
  have⟨x,hx⟩:=Classical.not_forall.1 e
  have⟨hm,hx⟩:=Classical.not_imp.1 hx
  exact⟨x,hm,by simp[yX,gu hx]⟩
end Go.Proofs.YtkdjapahgmflbaaGreat
end
section
set_option maxHeartbeats 2000000
namespace Go.Proofs.YtkdjapahgmflbaaGreat
open Go Go.Ab
section
def Pq (x0:AV):Prog:=Ln 0 x0 fun a=>.loop [.aC,.int .i64 0] (fun b=>Bn .lss (g b 1) a fun a=>.ite a (Ix 1 x0 (g b 1) fun a=>.op (.ld1 a) fun a=>.op (.app 3 24 .aC a) fun a=>.op (.aU 1 1 [.aC] [(0,1,a)]) fun a=>.op (.app 1 24 (g b 0) a) fun a=>Bn .add (g b 1) (.int .i64 1) fun b=>.leaf 0 [a,b]) (.leaf 2 [g b 0,g b 1])) fun a b=>aB a 1 (.leaf 1 b) (aB a 2 (.fin [.val (g b 0)]) .bad)
theorem ab8 (x0:AV):CC Tryz.prog Dw [x0] (Pq x0):=cc Tryz.func278 [3,6,7,8] (fun _=>[])
def QW (x0:AV):Prog:=.op (.aU 1 0 [] []) fun a=>.loop [a,.int .i64 0] (fun a=>Ln 0 x0 fun b=>Bn .lss (g a 1) b fun b=>.ite b (.op (.aU 3 0 [] []) fun b=>Ix 1 x0 (g a 1) fun c=>.op (.ld1 c) fun c=>.op (.app 3 24 b c) fun b=>.op (.aU 1 1 [.aC] [(0,1,b)]) fun b=>.op (.app 1 24 (g a 0) b) fun b=>Bn .add (g a 1) (.int .i64 1) fun a=>.leaf 0 [b,a]) (.leaf 2 [g a 0,g a 1])) fun a b=>aB a 1 (.leaf 1 b) (aB a 2 (.fin [.val (g b 0)]) .bad)
theorem aeW (x0:AV):CC Tryz.prog Ed [x0] (QW x0):=cc Tryz.func259 [0,3,4] (fun _=>[])
end
theorem OU (xs:List (List Ab.Timer)) (hs:xs.length+szs xs≤67108864):gG Tryz.prog Dw xs:=by
 intro v F h r
 refine ab8 _ ?_
 unfold Pq
 have hsm:=r.small
 refine bP r ?_
 refine aT xs.length (fun i vs h1=>∃ u G,vs=[u,.int .i64 (i:Int)]∧i≤xs.length∧Ext h h1∧au h1 u (xs.take i) G∧Own h.n h1 G) ⟨.aC,[],rfl,Nat.zero_le _,Ext.refl _,au.aC,Own.nil⟩ ?_
 rintro i vs h1 _ ⟨u,G,rfl,hi,e1,ru,ou⟩
 have n1:=e1.1
 simp only[g0,g1]
 refine br (fun hlt=>?_) (fun hge=>?_)
 ·obtain⟨x,hx,-,htk⟩:=aP (show i < xs.length by omega)
  have hm:=bC (List.mem_of_getElem? hx)
  have hx2:Sz.sz x=x.length+szs x:=rfl
  refine vs ?_
  refine bV r hx rfl ?_
  rintro b o _ Fi a ⟨vx,rfl,rx⟩ _
  (repeat' first|refine vs ?_|fail)
  refine app0 (n:=h1.n) (ys:=x) (ah:au h1 vx x Fi) (oU rx _) (Nat.le_refl _) rfl (by omega) ?_
  intro w2 h2 G2 e2 q2 o2
  have n2:=e2.1
  (repeat' first|refine vs ?_|fail)
  have hlen:(xs.take i).length=i:=by rw[List.length_take];omega
  refine app1 (n:=h.n) (xs:=xs.take i) (Fx:=G) (a:=x) ah ⟨_,rfl,q2⟩ (fK (bA) o2 (by omega) kK) aO rfl ?_ ?_ ?_
  ·rw[hlen];omega
  ·rw[hlen];omega
  intro u' h' F' ek kp r' o'
  (repeat' first|refine vs ?_|fail)
  exact⟨by omega,u',F',rfl,by omega,ek h aD (Nat.le_refl _),by rw[htk];exact r',o'⟩
 ·(repeat' first|refine vs ?_|fail)
  exact⟨rfl,u,rfl,e1,G,by rw[show i=xs.length by omega,List.take_length] at ru;exact ru,ou⟩
theorem QF (xs:List (List Ab.Timer)) (hs:xs.length+szs xs≤67108864):gG Tryz.prog Ed xs:=by
 intro v F h r
 refine aeW _ ?_
 unfold QW
 have hsm:=r.small
 obtain⟨re,oe⟩:=jy (h:=h) (α:=List Ab.Timer) (w:=1) rfl
 refine vs ?_
 refine aT xs.length (fun i vs h1=>∃ u G,vs=[u,.int .i64 (i:Int)]∧i≤xs.length∧Ext h h1∧au h1 u (xs.take i) G∧Own h.n h1 G) ⟨_,_,rfl,Nat.zero_le _,(Ext.refl _).push _,by rw[List.take_zero];exact re,oe _ (Nat.le_refl _)⟩ ?_
 rintro i vs h1 _ ⟨u,G,rfl,hi,e1,ru,ou⟩
 have n1:=e1.1
 simp only[g0,g1]
 refine bP r ?_
 refine br (fun hlt=>?_) (fun hge=>?_)
 ·obtain⟨x,hx,-,htk⟩:=aP (show i < xs.length by omega)
  have hm:=bC (List.mem_of_getElem? hx)
  have hx2:Sz.sz x=x.length+szs x:=rfl
  refine vs ?_
  refine bV r hx rfl ?_
  rintro b o _ Fi a ⟨vx,rfl,rx⟩ _
  (repeat' first|refine vs ?_|fail)
  refine CK (h:=h1) (n:=h1.n) (ys:=x) (ah:au h1 vx x Fi) (oU rx _) (Nat.le_refl _) rfl (by omega) ?_
  intro w2 h2 G2 e2 q2 o2
  have n2:=e2.1
  (repeat' first|refine vs ?_|fail)
  have hlen:(xs.take i).length=i:=by rw[List.length_take];omega
  refine app1 (n:=h.n) (xs:=xs.take i) (Fx:=G) (a:=x) ah ⟨_,rfl,q2⟩ (fK (bA) o2 (by omega) kK) aO rfl ?_ ?_ ?_
  ·rw[hlen];omega
  ·rw[hlen];omega
  intro u' h' F' ek kp r' o'
  (repeat' first|refine vs ?_|fail)
  exact⟨by omega,u',F',rfl,by omega,ek h aD (Nat.le_refl _),by rw[htk];exact r',o'⟩
 ·(repeat' first|refine vs ?_|fail)
  exact⟨rfl,u,rfl,e1,G,by rw[show i=xs.length by omega,List.take_length] at ru;exact ru,ou⟩
end Go.Proofs.YtkdjapahgmflbaaGreat
end
section
set_option maxHeartbeats 2000000
namespace Go.Proofs.YtkdjapahgmflbaaGreat
open Go Go.Ab
section
def Po (x0:AV):Prog:=.op (.box x0) fun a=>.op (.alloc [.int .i64 0,.aC,.aC,.aC]) fun b=>.op (.fad 0 a) fun c=>.op (.ld1 c) fun d=>Lg 1 a fun e=>.op (.fad 2 a) fun f=>.op (.ld1 f) fun i=>.op (.fad 3 a) fun a=>.op (.ld1 a) fun j=>Cl Dw [e] fun e=>.chk (.ld1 c) d (.chk (.ld1 f) i (.chk (.ld1 a) j (Cl Dw [i] fun f=>.chk (.ld1 c) d (.chk (.ld1 a) j (.op (.app 3 24 .aC j) fun a=>.chk (.ld1 c) d (.op (.build [.int .i64 0,.aC,.aC,.aC] [(0,1,d),(1,1,e),(2,1,f),(3,1,a)]) fun a=>.op (.st 4 b a) fun _=>.fin [.cn 4 b]))))))
theorem ab5 (x0:AV):CC Tryz.prog wY [x0] (Po x0):=cc Tryz.func173 [] (fun r=>if r=1 then[(0,[]),(1,[]),(2,[]),(3,[]),(5,[]),(6,[]),(8,[]),(9,[]),(4,[1,6,9]),(7,[1,9]),(10,[1]),(11,[]),(12,[])] else[])
end
theorem Dk (x:bX) (hs:Sz.sz x≤67108864):dO bX Tryz.prog wY x:=by
 rintro cs F h ⟨v0,v1,v2,F0,F1,F2,rfl,rfl,r0,r1,r2⟩
 have hsz:Sz.sz x=(x.near.length+szs x.near)+(x.far.length+szs x.far)+(x.rest.length+szs x.rest):=rfl
 refine ab5 _ ?_
 unfold Po
 (repeat' first|refine vs ?_|fail)
 refine aK (OU x.near (by omega) _ _ _ ah) ?_
 rintro w1 h1 ⟨e1,G1,q1,o1⟩
 have n1:=e1.1
 (try simp only[aH,aN] at n1)
 (repeat' first|refine vs ?_|fail)
 refine aK (OU x.far (by omega) _ _ _ ah) ?_
 rintro w2 h2 ⟨e2,G2,q2,o2⟩
 have n2:=e2.1
 (repeat' first|refine vs ?_|fail)
 refine app0 (ys:=x.rest) (ah:au _ v2 x.rest F2) (oU r2 _) (Nat.le_refl _) rfl (by omega) ?_
 intro w3 h3 G3 e3 q3 o3
 have n3:=e3.1
 (repeat' first|refine vs ?_|fail)
 exact⟨rfl,_,rfl,aD,_,_,rfl,⟨_,_,_,_,_,_,rfl,rfl,ah,ah,ah⟩,(dK cK (dK cK cK dV) dV).1⟩
end Go.Proofs.YtkdjapahgmflbaaGreat
end
section
set_option maxHeartbeats 2000000
namespace Go.Proofs.YtkdjapahgmflbaaGreat
open Go Go.Ab
section
def RL (x0:AV):Prog:=.op (.box x0) fun a=>.op (.alloc l8) fun b=>Ld 5 a fun c=>.op (.alloc l8) fun d=>.op (.st 5 d c) fun _=>Sg 4 d .aC fun _=>Lg 4 a fun a=>Ln 0 a fun c=>.loop [.int .i64 0] (fun b=>Bn .lss (g b 0) c fun c=>.ite c (Ix 5 a (g b 0) fun a=>Ld 5 a fun a=>.op (.alloc l8) fun c=>.op (.st 5 c a) fun _=>.op (.fad 4 d) fun a=>.op (.ld1 a) fun e=>Ld 5 c fun c=>Cl xw [c] fun c=>.chk (.ld1 a) e (.op (.aU 5 1 l8 [(0,5,c)]) fun a=>.op (.app 5 72 e a) fun a=>Sg 4 d a fun _=>Bn .add (g b 0) (.int .i64 1) fun a=>.leaf 0 [a])) (.leaf 2 [g b 0])) fun a c=>aB a 1 (.leaf 1 c) (aB a 2 (Ld 5 d fun a=>.op (.st 5 b a) fun _=>.fin [.cn 5 b]) .bad)
theorem afP (x0:AV):CC Tryz.prog xw [x0] (RL x0):=cc Tryz.func276 [2,3,9,10,11] (fun r=>if r=6 then[(0,[]),(1,[]),(2,[]),(3,[1]),(4,[]),(5,[]),(6,[]),(7,[])] else[])
def SE (x0:AV):Prog:=.op (.box x0) fun a=>.op (.alloc l8) fun b=>Ld 5 a fun c=>.op (.alloc l8) fun d=>.op (.st 5 d c) fun _=>.op (.aU 5 0 [] []) fun c=>Sg 4 d c fun _=>.loop [.int .i64 0] (fun b=>Lg 4 a fun c=>Ln 0 c fun c=>Bn .lss (g b 0) c fun c=>.ite c (Lg 4 a fun a=>Ix 5 a (g b 0) fun a=>Ld 5 a fun a=>Cl xE [a] fun a=>.op (.alloc l8) fun c=>.op (.st 5 c a) fun _=>Lg 4 d fun a=>Ld 5 c fun c=>.op (.aU 5 1 l8 [(0,5,c)]) fun c=>.op (.app 5 72 a c) fun a=>Sg 4 d a fun _=>Bn .add (g b 0) (.int .i64 1) fun a=>.leaf 0 [a]) (.leaf 2 [g b 0])) fun a c=>aB a 1 (.leaf 1 c) (aB a 2 (Ld 5 d fun a=>.op (.st 5 b a) fun _=>.fin [.cn 5 b]) .bad)
theorem ag1 (x0:AV):CC Tryz.prog xE [x0] (SE x0):=cc Tryz.func257 [1,2,3,4] (fun _=>[])
def Qs (x0:AV):Prog:=.op (.box x0) fun a=>.op (.alloc yF) fun b=>.op (.fad 7 a) fun c=>Ld 5 c fun c=>Cl xw [c] fun c=>.op (.fad 7 a) fun d=>.op (.st 5 d c) fun _=>Ld 12 a fun a=>.op (.st 12 b a) fun _=>.fin [.cn 12 b]
theorem adD (x0:AV):CC Tryz.prog JQ [x0] (Qs x0):=cc Tryz.func171
def Rb (x0:AV):Prog:=.op (.box x0) fun a=>.op (.alloc yF) fun b=>Ld 12 a fun c=>.op (.alloc yF) fun d=>.op (.st 12 d c) fun _=>.op (.fad 7 a) fun a=>Ld 5 a fun a=>Cl xE [a] fun a=>.op (.alloc l8) fun c=>.op (.st 5 c a) fun _=>Ld 5 c fun a=>.op (.fad 7 d) fun c=>.op (.st 5 c a) fun _=>Ld 12 d fun a=>.op (.st 12 b a) fun _=>.fin [.cn 12 b]
theorem ae7 (x0:AV):CC Tryz.prog Kg [x0] (Rb x0):=cc Tryz.func145
end
theorem aew (x:Pol):Sz.sz x≤67108864→dO Pol Tryz.prog xw x:=by
 refine lF (p:=fun x=>Sz.sz x≤67108864→dO Pol Tryz.prog xw x) ?_ x
 intro x ih hs cs F h r
 rw[Pol.tZ] at hs
 rw[Pol.dw] at r
 obtain⟨v0,rfl,r0⟩:=r
 have hsm:=r0.small
 refine afP _ ?_
 unfold RL
 (repeat' first|refine vs ?_|fail)
 refine aT x.l.length (fun i vs h1=>∃ u G,vs=[.int .i64 (i:Int)]∧i≤x.l.length∧Bk h1 (h.n+1+1) [.int .i64 x.kind,.int .i64 x.n,.str x.key,.str x.text,u] 0∧Bk h1 (h.n+1) [AV.int .i64 0,AV.int .i64 0,AV.str ⟨#[]⟩,AV.str ⟨#[]⟩,AV.aC] 0∧Ext h h1∧h.n+1+1+1≤h1.n∧au h1 u (x.l.take i) G∧Own (h.n+1+1+1) h1 G) ?_ ?_
 ·exact⟨.aC,[],rfl,Nat.zero_le _,aV,aV,aD,by simp only[aH,aN];omega,au.aC,Own.nil⟩
 rintro i vs h1 _ ⟨u,G,rfl,hi,b2,b1,e1,m1,ru,ou⟩
 simp only[g0,g1]
 refine br (fun hlt=>?_) (fun hge=>?_)
 ·obtain⟨y,hy,-,htk⟩:=aP (show i < x.l.length by omega)
  have hm:=bC (List.mem_of_getElem? hy)
  have c:=ih y (List.mem_of_getElem? hy) (by omega)
  refine vs ?_
  refine bV r0 hy rfl ?_
  rintro b o cy Fi a ry _
  rw[Pol.dw] at ry
  obtain⟨vy,rfl,ry⟩:=ry
  (repeat' first|refine vs ?_|fail)
  refine aK (c _ _ _ (Pol.dw.2 ⟨_,rfl,ah⟩)) ?_
  rintro _ h2 ⟨e2,_,G2,rfl,r2,o2⟩
  rw[Pol.dw] at r2
  obtain⟨w2,rfl,q2⟩:=r2
  have n2:=e2.1
  (try simp only[aH,aN] at n2)
  (repeat' first|refine vs ?_|fail)
  have hlen:(x.l.take i).length=i:=by rw[List.length_take];omega
  refine app1 (n:=h.n+1+1+1) (xs:=x.l.take i) (Fx:=G) (a:=y) ah (Pol.dw.2 ⟨_,rfl,q2⟩) (fK (bA) o2 (by simp only[aH];omega) kK) aO rfl ?_ ?_ ?_
  ·rw[hlen];omega
  ·rw[hlen];omega
  intro u' h' F' ek kp r' o'
  have n3:=kp.1
  (try simp only[aH,aN] at n3)
  (repeat' first|refine vs ?_|fail)
  exact⟨by omega,u',F',rfl,by omega,aV,aV,(ek h aD (by omega)).upd (by(try simp only[aH,aN]);omega) _,by simp only[aN];omega,by rw[htk];exact ah,bA⟩
 ·have hlen:i=x.l.length:=by omega
  subst hlen
  rw[List.take_length] at ru
  (repeat' first|refine vs ?_|fail)
  exact⟨rfl,_,rfl,aD,_,_,rfl,Pol.dw.2 ⟨_,rfl,ah⟩,(bA:Own (h.n+1+1+1) _ _).mono (by omega) fun _ _=>rfl⟩
theorem aga (x:Pol):Sz.sz x≤67108864→dO Pol Tryz.prog xE x:=by
 refine lF (p:=fun x=>Sz.sz x≤67108864→dO Pol Tryz.prog xE x) ?_ x
 intro x ih hs cs F h r
 rw[Pol.tZ] at hs
 rw[Pol.dw] at r
 obtain⟨v0,rfl,r0⟩:=r
 have hsm:=r0.small
 refine ag1 _ ?_
 unfold SE
 (repeat' first|refine vs ?_|fail)
 refine aT x.l.length (fun i vs h1=>∃ u G,vs=[.int .i64 (i:Int)]∧i≤x.l.length∧Bk h1 h.n (x.cs v0) 0∧Bk h1 (h.n+1+1) [.int .i64 x.kind,.int .i64 x.n,.str x.key,.str x.text,u] 0∧Bk h1 (h.n+1) [AV.int .i64 0,AV.int .i64 0,AV.str ⟨#[]⟩,AV.str ⟨#[]⟩,AV.aC] 0∧Ext h h1∧h.n+1+1+1≤h1.n∧au h1 u (x.l.take i) G∧Own (h.n+1+1+1) h1 G) ?_ ?_
 ·refine⟨_,[h.n+1+1+1],rfl,Nat.zero_le _,aV,aV,aV,aD,by simp only[aH,aN];omega,?_,?_⟩
  ·exact(jy (α:=Pol) (w:=5) rfl).1
  ·exact(jy (α:=Pol) (w:=5) rfl).2 _ (by simp only[aH];omega)
 rintro i vs h1 _ ⟨u,G,rfl,hi,b0,b2,b1,e1,m1,ru,ou⟩
 simp only[g0,g1]
 refine vs ?_
 refine br (fun hlt=>?_) (fun hge=>?_)
 ·obtain⟨y,hy,-,htk⟩:=aP (show i < x.l.length by omega)
  have hm:=bC (List.mem_of_getElem? hy)
  have c:=ih y (List.mem_of_getElem? hy) (by omega)
  refine vs ?_
  refine bV r0 hy rfl ?_
  rintro b o cy Fi a ry _
  rw[Pol.dw] at ry
  obtain⟨vy,rfl,ry⟩:=ry
  (repeat' first|refine vs ?_|fail)
  refine aK (c _ _ _ (Pol.dw.2 ⟨_,rfl,ah⟩)) ?_
  rintro _ h2 ⟨e2,_,G2,rfl,r2,o2⟩
  rw[Pol.dw] at r2
  obtain⟨w2,rfl,q2⟩:=r2
  have n2:=e2.1
  (try simp only[aH,aN] at n2)
  (repeat' first|refine vs ?_|fail)
  have hlen:(x.l.take i).length=i:=by rw[List.length_take];omega
  refine app1 (n:=h.n+1+1+1) (xs:=x.l.take i) (Fx:=G) (a:=y) ah (Pol.dw.2 ⟨_,rfl,ah⟩) (fK (bA) (bA:Own h1.n _ G2) (by omega) kK) aO rfl ?_ ?_ ?_
  ·rw[hlen];omega
  ·rw[hlen];omega
  intro u' h' F' ek kp r' o'
  have n3:=kp.1
  (try simp only[aH,aN] at n3)
  (repeat' first|refine vs ?_|fail)
  exact⟨by omega,u',F',rfl,by omega,aV,aV,aV,(ek h aD (by omega)).upd (by(try simp only[aH,aN]);omega) _,by simp only[aN];omega,by rw[htk];exact ah,bA⟩
 ·have hlen:i=x.l.length:=by omega
  subst hlen
  rw[List.take_length] at ru
  (repeat' first|refine vs ?_|fail)
  exact⟨rfl,_,rfl,aD,_,_,rfl,Pol.dw.2 ⟨_,rfl,ah⟩,(bA:Own (h.n+1+1+1) _ _).mono (by omega) fun _ _=>rfl⟩
theorem acO (x:iL) (hs:Sz.sz x≤67108864):dO iL Tryz.prog JQ x:=by
 rintro cs F h ⟨v0,rfl,r0⟩
 have hx2:Sz.sz x=Sz.sz x.rule:=rfl
 refine adD _ ?_
 unfold Qs
 (repeat' first|refine vs ?_|((with_reducible refine aA xw ?_);(refine aK (aew x.rule (by omega) _ _ _ (Pol.dw.2 ⟨_,rfl,ah⟩)) ?_;rintro _ h2 ⟨e2,_,G2,rfl,r2,o2⟩;rw[Pol.dw] at r2;obtain⟨w2,rfl,q2⟩:=r2;have n2:=e2.1;(try simp only[aH,aN] at n2)))|fail)
 exact⟨rfl,_,rfl,aD,_,_,rfl,⟨_,rfl,ah⟩,bA⟩
theorem adY (x:iL) (hs:Sz.sz x≤67108864):dO iL Tryz.prog Kg x:=by
 rintro cs F h ⟨v0,rfl,r0⟩
 have hx2:Sz.sz x=Sz.sz x.rule:=rfl
 refine ae7 _ ?_
 unfold Rb
 (repeat' first|refine vs ?_|((with_reducible refine aA xE ?_);(refine aK (aga x.rule (by omega) _ _ _ (Pol.dw.2 ⟨_,rfl,ah⟩)) ?_;rintro _ h2 ⟨e2,_,G2,rfl,r2,o2⟩;rw[Pol.dw] at r2;obtain⟨w2,rfl,q2⟩:=r2;have n2:=e2.1;(try simp only[aH,aN] at n2)))|fail)
 exact⟨rfl,_,rfl,aD,_,_,rfl,⟨_,rfl,ah⟩,bA⟩
end Go.Proofs.YtkdjapahgmflbaaGreat
end
section
set_option maxHeartbeats 2000000
namespace Go.Proofs.YtkdjapahgmflbaaGreat
open Go Go.Ab
section
def SA (x0:AV):Prog:=.op (.box x0) fun a=>.op (.alloc [.int .i64 0,.aC,.aC,.aC]) fun b=>.op (.fad 0 a) fun c=>.op (.ld1 c) fun d=>Lg 1 a fun e=>.op (.fad 2 a) fun f=>.op (.ld1 f) fun i=>.op (.aU 3 0 [] []) fun j=>.op (.fad 3 a) fun a=>.op (.ld1 a) fun k=>Cl Ed [e] fun e=>.chk (.ld1 c) d (.chk (.ld1 f) i (.chk (.aU 3 0 [] []) j (.chk (.ld1 a) k (Cl Ed [i] fun f=>.chk (.ld1 c) d (.chk (.aU 3 0 [] []) j (.chk (.ld1 a) k (.op (.app 3 24 j k) fun a=>.chk (.ld1 c) d (.op (.build [.int .i64 0,.aC,.aC,.aC] [(0,1,d),(1,1,e),(2,1,f),(3,1,a)]) fun a=>.op (.st 4 b a) fun _=>.fin [.cn 4 b]))))))))
theorem agY (x0:AV):CC Tryz.prog xD [x0] (SA x0):=cc Tryz.func147 [] (fun r=>if r=1 then[(0,[]),(1,[]),(2,[]),(3,[]),(5,[]),(6,[]),(8,[]),(9,[]),(10,[]),(4,[1,6,8,10]),(7,[1,8,10]),(11,[1]),(12,[]),(13,[])] else[])
end
theorem EP (x:bX) (hs:Sz.sz x≤67108864):dO bX Tryz.prog xD x:=by
 rintro cs F h ⟨v0,v1,v2,F0,F1,F2,rfl,rfl,r0,r1,r2⟩
 have hsz:Sz.sz x=(x.near.length+szs x.near)+(x.far.length+szs x.far)+(x.rest.length+szs x.rest):=rfl
 refine agY _ ?_
 unfold SA
 (repeat' first|refine vs ?_|fail)
 obtain⟨re,oe⟩:=jy (h:=(h.push ⟨x.cs v0 v1 v2,0,0⟩).push ⟨[AV.int .i64 0,AV.aC,AV.aC,AV.aC],0,0⟩) (α:=Ab.Timer) (w:=3) rfl
 have oe:=oe (h.n+1+1) (by simp)
 obtain⟨H,hH⟩:∃ H,H=(((h.push ⟨x.cs v0 v1 v2,0,0⟩).push ⟨[AV.int .i64 0,AV.aC,AV.aC,AV.aC],0,0⟩).push ⟨[],3,0⟩):=⟨_,rfl⟩
 have nH:H.n=h.n+1+1+1:=by rw[hH];rfl
 have eH:Ext h H:=by rw[hH];exact((Ext.refl h).push _).push _ |>.push _
 have bx:Bk H h.n (x.cs v0 v1 v2) 0:=by rw[hH];exact aV
 have bo:Bk H (h.n+1) [AV.int .i64 0,AV.aC,AV.aC,AV.aC] 0:=by rw[hH];exact aV
 have be:Bk H (h.n+1+1) [] 3:=by rw[hH];exact fD
 rw[←hH] at re oe
 have hH':=hH.symm
 simp only[aH] at hH' re oe
 clear hH
 try rw[hH']
 clear hH'
 have r0:=r0.ext eH
 have r1:=r1.ext eH
 have r2:=r2.ext eH
 refine aK (QF x.near (by omega) _ _ _ r0) ?_
 rintro w1 h1 ⟨e1,G1,q1,o1⟩
 have n1:=e1.1
 have bx1:=dX e1 bx
 have be1:=dX e1 be
 have r2:=r2.ext e1
 have r1:=r1.ext e1
 (repeat' first|refine vs ?_|((with_reducible refine Yw ?_);refine MF (by assumption) (by rfl) (by decide) (by rfl) ?_)|fail)
 refine aK (QF x.far (by omega) _ _ _ r1) ?_
 rintro w2 h2 ⟨e2,G2,q2,o2⟩
 have n2:=e2.1
 have bx2:=dX e2 bx1
 have be2:=dX e2 be1
 have r2:=r2.ext e2
 have re:=(re.ext e1).ext e2
 have oe:=(iN e2 (iN e1 ⟨oe,(fun c hc=>by rw[List.mem_singleton.1 hc,nH];omega:∀ c∈[h.n+1+1],c < H.n)⟩)).1
 (repeat' first|refine vs ?_|((with_reducible refine Yw ?_);refine MF (by assumption) (by rfl) (by decide) (by rfl) ?_)|fail)
 refine am3 (n:=h.n+1+1) (xs:=([]:List Ab.Timer)) (ys:=x.rest) re r2 oe (by omega) rfl (by simp;omega) (by simp;omega) ?_
 rintro w3 h3 G3 k3 q3 o3 m3
 have n3:=k3.1
 have bx3:=bF k3 bx2 (by simp only[List.mem_singleton];omega)
 have bo3:=bF k3 (dX e2 (dX e1 bo)) (by simp only[List.mem_singleton];omega)
 have d1:∀ c∈G1,c ∉ [h.n+1+1]:=fun c hc hX=>by have:=(o1.2 c hc).1;have:=List.mem_singleton.1 hX;omega
 have d2:∀ c∈G2,c ∉ [h.n+1+1]:=fun c hc hX=>by have:=(o2.2 c hc).1;have:=List.mem_singleton.1 hX;omega
 have l1:=q1.lt
 have l2:=q2.lt
 have o1':=dD k3 (iN e2 ⟨o1,l1⟩) d1
 have o2':=dD k3 ⟨o2,l2⟩ d2
 have q1':=aL k3 (q1.ext e2) d1
 have q2':=aL k3 q2 d2
 have eT:Ext h h3:=Kp.ext (eH.trans (e1.trans e2)) k3 fun c hc=>by rw[List.mem_singleton.1 hc];omega
 have q3':au h3 w3 x.rest G3:=q3
 (repeat' first|refine vs ?_|fail)
 refine⟨rfl,_,rfl,eT.upd (by simp only[aH];omega) _,_,G1++(G2++G3),rfl,⟨_,_,_,_,_,_,rfl,rfl,?_,?_,?_⟩,?_⟩
 ·refine fC q1' fun hm=>?_
  have:=(o1.2 _ hm).1;simp only[aH] at this;omega
 ·refine fC q2' fun hm=>?_
  have:=(o2.2 _ hm).1;simp only[aH] at this;omega
 ·refine fC q3' fun hm=>?_
  rcases m3 _ hm with q|q
  ·have:=List.mem_singleton.1 q;simp only[aH] at this;omega
  ·simp only[aH] at q;omega
 ·have oo:bO (h.n+1+1) h3 (G1++(G2++G3)):=dK ⟨o1'.1.mono (by omega) fun _ _=>rfl,o1'.2⟩ (dK ⟨o2'.1.mono (by omega) fun _ _=>rfl,o2'.2⟩ ⟨o3,q3.lt⟩ fun c hc hm=>by
   rcases m3 c hm with q|q
   ·exact d2 c hc q
   ·have:=l2 c hc;omega) fun c hc hm=>by
   rcases List.mem_append.1 hm with hm|hm
   ·have:=l1 c hc;have:=(o2.2 c hm).1;omega
   ·rcases m3 c hm with q|q
    ·exact d1 c hc q
    ·have:=l1 c hc;omega
  refine(dN oo fun hm=>?_).1.mono (by omega) fun _ _=>rfl
  have:=(oo.1.2 _ hm).1;simp only[aH] at this;omega
end Go.Proofs.YtkdjapahgmflbaaGreat
end
section
set_option maxHeartbeats 2000000
namespace Go.Proofs.YtkdjapahgmflbaaGreat
open Go Go.Ab
section
def Px (x0 x1:AV):Prog:=.op (.alloc [.int .i64 0,.int .i64 0,.bool false]) fun a=>Cl zX [x0,x1] fun b=>Bn .lss b (.int .i64 0) fun c=>.ite c (.op (.build [.int .i64 0,.int .i64 0,.bool false] []) fun b=>.op (.st 3 a b) fun _=>.fin [.cn 3 a,.val (.bool false)]) (Ix 3 x0 b fun b=>Ld 3 b fun b=>.op (.st 3 a b) fun _=>.fin [.cn 3 a,.val (.bool true)])
theorem acf (x0 x1:AV):CC Tryz.prog oD [x0,x1] (Px x0 x1):=cc Tryz.func227
def O1 (x0 x1:AV):Prog:=.op (.alloc [.int .i64 0,.int .i64 0,.bool false]) fun a=>.loop [.int .i64 0] (fun b=>Ln 0 x0 fun c=>Bn .lss (g b 0) c fun c=>.ite c (Ix 3 x0 (g b 0) fun c=>Lg 0 c fun c=>Bn .eql c x1 fun c=>.ite c (Ix 3 x0 (g b 0) fun b=>Ld 3 b fun b=>.op (.st 3 a b) fun _=>.fin [.cn 3 a,.val (.bool true)]) (Bn .add (g b 0) (.int .i64 1) fun a=>.leaf 0 [a])) (.leaf 2 [g b 0])) fun b c=>aB b 1 (.leaf 1 c) (aB b 2 (.op (.build [.int .i64 0,.int .i64 0,.bool false] []) fun b=>.op (.st 3 a b) fun _=>.fin [.cn 3 a,.val (.bool false)]) .bad)
theorem abL (x0 x1:AV):CC Tryz.prog pU [x0,x1] (O1 x0 x1):=cc Tryz.func328 [0,1,4,6] (fun _=>[])
def OL (x0 x1:AV):Prog:=.op (.box x0) fun a=>Lg 0 a fun a=>Lg 0 x1 fun b=>Bn .eql a b fun a=>.fin [.val a]
theorem aa4 (x0 x1:AV):CC Tryz.prog Jj [x0,x1] (OL x0 x1):=cc Tryz.func381
def ZF (x0 x1:AV):Prog:=Cl zL [x0,x1] fun a=>.op (.bin 0 .eql a (.int .i64 (-1))) fun b=>.ite b (.fin [.val x0]) (Bn .add a (.int .i64 1) fun b=>.loop [a,b] (fun a=>Ln 0 x0 fun b=>Bn .lss (g a 1) b fun b=>.ite b (Ix 3 x0 (g a 1) fun b=>Ld 3 b fun b=>.op (.alloc [.int .i64 0,.int .i64 0,.bool false]) fun c=>.op (.st 3 c b) fun _=>Ld 3 c fun b=>.op (.iC x1 [b]) fun b=>.op (.una .not b) fun b=>.scope (.ite b (Ld 3 c fun b=>Ix 3 x0 (g a 0) fun c=>.op (.st 3 c b) fun _=>Bn .add (g a 0) (.int .i64 1) fun a=>.leaf 0 [a]) (.leaf 0 [g a 0])) (fun b=>Bn .add (g a 1) (.int .i64 1) fun a=>.leaf 0 [g b 0,a]) fun a b=>aB a 1 (.leaf 1 b) .bad) (.leaf 2 [g a 0,g a 1])) fun a b=>aB a 1 (.leaf 1 b) (aB a 2 (.op (.slc 3 x0 (some (g b 0)) none none) fun a=>.op (.clr 3 [.int .i64 0,.int .i64 0,.bool false] a) fun _=>.op (.slc 3 x0 none (some (g b 0)) none) fun a=>.fin [.val a]) .bad))
theorem ZG (x0 x1:AV):CC Tryz.prog I7 [x0,x1] (ZF x0 x1):=cc Tryz.func380 [0,1,5,6] (fun _=>[])
def Qw (x0 x1 x2:AV):Prog:=.op (.box x1) fun a=>.op (.app 3 24 .aC x0) fun b=>Bn .lss x2 (.int .i64 1) fun c=>.ite c (.fin [.val b,.val (.int .i64 0)]) (.op (.kr Jj [a]) fun c=>Cl I7 [b,c] fun b=>Ld 3 a fun a=>.op (.aU 3 1 [.int .i64 0,.int .i64 0,.bool false] [(0,3,a)]) fun a=>.op (.app 3 24 b a) fun a=>.loop [a,.int .i64 0] (fun a=>Ln 0 (g a 0) fun b=>Bn .gtr b x2 fun b=>.ite b (Ix 3 (g a 0) (.int .i64 0) fun b=>Lg 0 b fun b=>.op (.slc 3 (g a 0) (some (.int .i64 1)) none none) fun a=>.leaf 0 [a,b]) (.leaf 2 [g a 0,g a 1])) fun a b=>aB a 1 (.leaf 1 b) (aB a 2 (.fin [.val (g b 0),.val (g b 1)]) .bad))
theorem adH (x0 x1 x2:AV):CC Tryz.prog JR [x0,x1,x2] (Qw x0 x1 x2):=cc Tryz.func324 [2,8,9] (fun _=>[])
def P7 (x0 x1 x2:AV):Prog:=.op (.box x1) fun a=>Bn .lss x2 (.int .i64 1) fun b=>.ite b (.op (.aU 3 0 [] []) fun a=>.op (.app 3 24 a x0) fun a=>.fin [.val a,.val (.int .i64 0)]) (.op (.aU 3 0 [] []) fun b=>.loop [b,.int .i64 0] (fun b=>Ln 0 x0 fun c=>Bn .lss (g b 1) c fun c=>.ite c (Ix 3 x0 (g b 1) fun c=>Lg 0 c fun c=>Lg 0 a fun a=>Bn .neq c a fun a=>.scope (.ite a (Ix 3 x0 (g b 1) fun a=>Ld 3 a fun a=>.op (.aU 3 1 [.int .i64 0,.int .i64 0,.bool false] [(0,3,a)]) fun a=>.op (.app 3 24 (g b 0) a) fun a=>.leaf 0 [a]) (.leaf 0 [g b 0])) (fun a=>Bn .add (g b 1) (.int .i64 1) fun b=>.leaf 0 [g a 0,b]) fun a b=>aB a 1 (.leaf 1 b) .bad) (.leaf 2 [g b 0,g b 1])) fun b c=>aB b 1 (.leaf 1 c) (aB b 2 (Ld 3 a fun a=>.op (.aU 3 1 [.int .i64 0,.int .i64 0,.bool false] [(0,3,a)]) fun a=>.op (.app 3 24 (g c 0) a) fun a=>.loop [a,.int .i64 0] (fun a=>Ln 0 (g a 0) fun b=>Bn .gtr b x2 fun b=>.ite b (Ix 3 (g a 0) (.int .i64 0) fun b=>Lg 0 b fun b=>.op (.aU 3 0 [] []) fun c=>.op (.slc 3 (g a 0) (some (.int .i64 1)) none none) fun a=>.op (.app 3 24 c a) fun a=>.leaf 0 [a,b]) (.leaf 4 [g a 0,g a 1])) fun a b=>aB a 1 (.leaf 1 b) (aB a 4 (.fin [.val (g b 0),.val (g b 1)]) .bad)) .bad))
theorem ac8 (x0 x1 x2:AV):CC Tryz.prog JJ [x0,x1,x2] (P7 x0 x1 x2):=cc Tryz.func360 [0,2,4,8,9,10] (fun r=>if r=7 then[(0,[]),(1,[]),(2,[]),(3,[]),(4,[]),(5,[]),(6,[]),(7,[])] else[])
end
theorem akF {α:Type} (p:α→Bool) (xs:List α):(idx p xs= -1∧xs.find? p=none)∨∃ (i:Nat) (x:α),idx p xs=i∧xs[i]? =some x∧xs.find? p=some x:=by
 unfold idx
 by_cases hi:xs.findIdx p < xs.length
 ·right
  refine⟨xs.findIdx p,xs[xs.findIdx p],by rw[if_pos hi],List.getElem?_eq_getElem hi,?_⟩
  rw[List.find?_eq_some_iff_getElem]
  exact⟨List.findIdx_getElem,xs.findIdx p,hi,rfl,fun j hj=>by simpa using List.not_of_lt_findIdx hj⟩
 ·left
  refine⟨by rw[if_neg hi],?_⟩
  rw[List.find?_eq_none]
  have:xs.findIdx p=xs.length:=by have:=List.findIdx_le_length (xs:=xs) (p:=p);omega
  rw[List.findIdx_eq_length] at this
  intro x hx;simp[this x hx]
def vOf (xs:List bJ) (k:Int):bJ × Bool:=match xs.find? (isT k) with
 |some v=>(v,true)
 |none=>(⟨0,0,false⟩,false)
theorem abo {h:AH} {xs:List bJ} {x0:AV} {F:List Nat} {k:Int} (r:au h x0 xs F):aM Tryz.prog oD [x0,.int .i64 k] h (.tup [.agg (vOf xs k).1.cs,.bool (vOf xs k).2]):=by
 refine reader (acf _ _) (by simp only[old,olds,bJ.cs,and_self]) ?_
 unfold Px
 refine jD (aJ (OQ (r.ext ((Ext.refl _).push _))) ?_)
 rcases akF (isT k) xs with⟨h1,h2⟩|⟨i,x,h1,h2,h3⟩
 ·rw[h1]
  simp only[vOf,h2]
  (repeat' first|refine vs ?_|(refine br ?_ ?_<;>first|exact bo|intro _)|fail)
  all_goals(refine⟨rfl,?_,(Ext.refl _).push _⟩;rfl)
 ·rw[h1]
  simp only[vOf,h3]
  (repeat' first|refine vs ?_|(refine br ?_ ?_<;>first|exact bo|intro _)|((with_reducible refine aY ?_);((refine ix ?_);rintro _ _ _ _ _ ⟨rfl,rfl⟩ _))|fail)
  all_goals(refine⟨rfl,?_,(Ext.refl _).push _⟩;rfl)
theorem aa7 {h:AH} {xs:List bJ} {x0:AV} {F:List Nat} {k:Int} (r:au h x0 xs F):aM Tryz.prog pU [x0,.int .i64 k] h (.tup [.agg (vOf xs k).1.cs,.bool (vOf xs k).2]):=by
 refine reader (abL _ _) (by simp only[old,olds,bJ.cs,and_self]) ?_
 unfold O1
 have hsm:=r.small
 refine jD (aT xs.length (fun i vs h1=>vs=[.int .i64 (i:Int)]∧i≤xs.length∧h1=h.push ⟨[.int .i64 0,.int .i64 0,.bool false],0,0⟩∧xs.find? (isT k)=(xs.drop i).find? (isT k)) ⟨rfl,by omega,rfl,by simp⟩ ?_)
 rintro i vs h1 _ ⟨rfl,hi,rfl,hf⟩
 simp only[g0]
 refine bP r (iH (fun hlt=>?_) (fun hge=>?_))
 ·obtain⟨x,hx,hd,_⟩:=aP (show i < xs.length by omega)
  rw[hd,List.find?_cons] at hf
  (repeat' first|refine vs ?_|(refine br ?_ ?_<;>first|exact bx|intro _)|((with_reducible refine aY ?_);((refine ix ?_);rintro _ _ _ _ _ ⟨rfl,rfl⟩ _))|fail)
  ·refine⟨rfl,?_,(Ext.refl _).push _⟩
   simp_all [vOf,isT,splice,bJ.cs]
  ·refine⟨by omega,rfl,by omega,rfl,?_⟩
   simp_all [isT]
 ·have:i=xs.length:=by omega
  subst this
  simp at hf
  (repeat' first|refine vs ?_|fail)
  refine⟨rfl,?_,(Ext.refl _).push _⟩
  have:xs.find? (isT k)=none:=by simpa using hf
  simp[vOf,this,splice,bJ.cs]
theorem LG {α:Type} [Flat α] {h:AH} {v:AV} {xs:List α} {F:List Nat} (r:au h v xs F):F.tail=[]:=by
 rcases r.flat with⟨_,_,rfl⟩|⟨b,_,_,_,rfl,_⟩<;>rfl
def gK (xs:List bJ) (v:bJ):List bJ:=(xs.filter fun x=>!isT v.trace x)++[v]
def gone (l:List bJ) (d:Nat):Int:=match d with
 |0=>0
 |d+1=>match l[d]? with
  |some v=>v.trace
  |none=>0
def rem (xs:List bJ) (v:bJ) (most:Int):List bJ × Int:=
 if most < 1 then(xs,0) else((gK xs v).drop ((gK xs v).length - most.toNat),gone (gK xs v) ((gK xs v).length - most.toNat))
theorem aaI {h:AH} {b:Nat} {v:bJ} (a:At h b 0 v.cs):Looks bJ Tryz.prog h Jj [.ptr b 0] (isT v.trace):=by
 rintro x cs F ⟨rfl,rfl⟩
 refine reader (aa4 _ _) (by simp only[old]) ?_
 unfold OL
 refine mX rfl ?_
 (repeat' first|refine vs ?_|(refine br ?_ ?_<;>first|exact bx|intro _)|fail)
 all_goals(refine⟨rfl,?_,aD⟩;simp[isT, *])
theorem ZC {h:AH} {n:Nat} {xs:List bJ} {x0:AV} {F:List Nat} {f:FuncId} {caps:List AV} {p:bJ→Bool} (r:au h x0 xs F) (o:Own n h F) (hf:∀ h',Kp h h' F→Looks bJ Tryz.prog h' f caps p):
  bN Tryz.prog I7 [x0,.fn f caps] h fun u h'=>Kp h h' F∧au h' u (xs.filter fun x=>!p x) F∧Own n h' F:=
 ZG _ _ (V6 (w:=3) rfl rfl r o (Oi r (hf h (Kp.refl _ _))) hf)
theorem VW {l:List bJ} {d:Nat} {x:bJ} (hx:l[d]? =some x):gone l (d+1)=x.trace:=by simp[gone,hx]
theorem acQ {h:AH} {xs:List bJ} {x0:AV} {F:List Nat} {v:bJ} {m:Int} (r:au h x0 xs F) (hsz:xs.length≤1048576):
  bN Tryz.prog JR [x0,.agg v.cs,.int .i64 m] h fun u h'=>Ext h h'∧∃ u0 F',u= .tup [u0,.int .i64 (rem xs v m).2]∧au h' u0 (rem xs v m).1 F'∧Own h.n h' F':=by
 refine adH _ _ _ ?_
 unfold Qw
 refine mX rfl ?_
 refine nP (n:=h.n+1) au.aC (r.ext ((Ext.refl _).push _)) (by rw[LG r];exact Own.nil) (by simp) rfl (by simp;omega) (by simp;omega) ?_
 intro v1 h1 F1 k1 r1 o1
 have e1:Ext h h1:=k1.ext ((Ext.refl h).push _) (by simp)
 have e1':Ext (h.push ⟨v.cs,0,0⟩) h1:=k1.ext (Ext.refl _) (by simp)
 have a1:At h1 h.n 0 v.cs:=jY.ext e1'
 rw[List.nil_append] at r1
 have hn1:h.n+1≤h1.n:=e1'.1
 have up:∀ {h':AH},Kp h1 h' F1→Ext (h.push ⟨v.cs,0,0⟩) h':=fun kp=>kp.ext e1' fun b hb=>(o1.2 b hb).1
 (repeat' first|refine vs ?_|(refine br ?_ ?_<;>first|exact bx|intro _)|fail)
 ·rename_i hm
  refine⟨rfl,_,rfl,e1,v1,F1,?_,?_,o1.mono (by omega) fun _ _=>rfl⟩
  ·simp[rem,hm]
  ·simpa[rem,hm] using r1
 ·rename_i hm
  refine aK (ZC (p:=isT v.trace) r1 o1 fun h' kp=>aaI (jY.ext (up kp))) ?_
  rintro v2 h2 ⟨k2,r2,o2⟩
  have e2:=up k2
  have a2:At h2 h.n 0 v.cs:=jY.ext e2
  have hfl:(xs.filter fun x=>!isT v.trace x).length≤xs.length:=List.length_filter_le _ _
  clear e1 e1' a1
  (repeat' first|refine vs ?_|fail)
  refine nP (n:=h.n+1) (r2.ext aD) (lC (n:=1) (xs:=[v]) rfl (by decide) (qo ⟨rfl,rfl⟩)) (by simpa using o2.ext aD r2.lt) (by have:=e2.1;simp at this ⊢;omega) rfl (by simp;omega) (by simp;omega) ?_
  intro v3 h3 F3 k3 r3 o3
  have e3:Ext h h3:=k3.ext (Ext.trans ((Ext.refl h).push _) (e2.push _)) fun b hb=>by have:=(o2.2 b hb).1;omega
  have hL:(gK xs v).length≤1048577:=by simp[gK];omega
  change au h3 v3 (gK xs v) F3 at r3
  refine GY (fun k vs h4=>∃ d va F4,vs=[va,.int .i64 (gone (gK xs v) d)]∧k=(gK xs v).length - d∧d≤(gK xs v).length - m.toNat∧Ext h h4∧au h4 va ((gK xs v).drop d) F4∧Own h.n h4 F4) (gK xs v).length ⟨0,v3,F3,rfl,rfl,by omega,e3,r3,o3.mono (by omega) fun _ _=>rfl⟩ ?_
  rintro k vs h4 ⟨d,va,F4,rfl,rfl,hd,e4,r4,o4⟩
  simp only[g0,g1]
  refine bP r4 ?_
  rw[List.length_drop]
  refine MQ (fun hgt=>?_) (fun hle=>?_)
  ·obtain⟨x,hx,hdr,_⟩:=aP (show d < (gK xs v).length by omega)
   rw[hdr] at r4
   have h0:(x::(gK xs v).drop (d+1))[(0:Int).toNat]? =some x:=rfl
   refine dM (vV r4 (by decide) h0 rfl ?_)
   rintro b o cs Fi a5 ⟨rfl,rfl⟩ _
   (repeat' first|refine vs ?_|fail)
   refine XY rfl r4 o4 fun u r5=>?_
   (repeat' first|refine vs ?_|fail)
   refine⟨_,?_,d+1,u,F4,by rw[VW hx],rfl,by omega,e4,r5,o4⟩
   omega
  ·have hde:d=(gK xs v).length - m.toNat:=by omega
   (repeat' first|refine vs ?_|fail)
   refine⟨rfl,_,rfl,e4,va,F4,?_,?_,o4⟩
   ·rw[hde];simp[rem,hm,g]
   ·rw[hde] at r4;simpa[rem,hm] using r4
theorem PS {h:AH} {xs:List bJ} {x0:AV} {F:List Nat} {v:bJ} {m:Int} (r:au h x0 xs F) (hsz:xs.length≤1048576):
  bN Tryz.prog JJ [x0,.agg v.cs,.int .i64 m] h fun u h'=>Ext h h'∧∃ u0 F',u= .tup [u0,.int .i64 (rem xs v m).2]∧au h' u0 (rem xs v m).1 F'∧Own h.n h' F':=by
 refine ac8 _ _ _ ?_
 unfold P7
 refine mX rfl ?_
 have hf:=LG r
 refine iH (fun hm=>dM ?_) (fun hm=>dP ?_)
 ·refine yh rfl (by decide) rfl ?_
  obtain⟨re,oe⟩:=jy (h:=h.push ⟨v.cs,0,0⟩) (α:=bJ) (w:=3) rfl
  refine nP (n:=h.n+1) re (r.ext aD) (by rw[hf];simpa using oe (h.n+1) (by simp)) (by simp) rfl (by simp;omega) (by simp;omega) ?_
  intro v1 h1 F1 k1 r1 o1
  refine MC ⟨rfl,_,rfl,k1.ext aD (by simp),v1,F1,?_,?_,o1.mono (by omega) fun _ _=>rfl⟩
  ·simp[rem,hm]
  ·simpa[rem,hm] using r1
 ·refine yh rfl (by decide) rfl ?_
  obtain⟨re,oe⟩:=jy (h:=h.push ⟨v.cs,0,0⟩) (α:=bJ) (w:=3) rfl
  refine aT xs.length (fun i vs h1=>∃ va F',vs=[va,.int .i64 (i:Int)]∧i≤xs.length∧Ext (h.push ⟨v.cs,0,0⟩) h1∧au h1 va ((xs.take i).filter fun x=>!isT v.trace x) F'∧Own (h.n+1) h1 F') ⟨_,_,rfl,by omega,aD,re,oe _ (by simp)⟩ ?_
  rintro i vs h1 _ ⟨va,F',rfl,hi,e,ra,oa⟩
  simp only[g0,g1]
  have a1:At h1 h.n 0 v.cs:=jY.ext e
  have E1:Ext h h1:=Ext.trans ((Ext.refl h).push _) e
  refine bP r (iH (fun hlt=>?_) (fun hge=>?_))
  ·obtain⟨x,hx,_,htk⟩:=aP (show i < xs.length by omega)
   have hfl:((xs.take i).filter fun x=>!isT v.trace x).length≤(xs.take i).length:=List.length_filter_le _ _
   have htl:(xs.take i).length=i:=by simp;omega
   have hn1:=e.1
   have hE:(xs.take (i+1)).filter (fun x=>!isT v.trace x)=(xs.take i).filter (fun x=>!isT v.trace x)++(if isT v.trace x=true then[] else[x]):=by
    rw[htk,List.filter_append];by_cases hh:isT v.trace x=true<;>simp[hh]
   (repeat' first|refine vs ?_|(refine br ?_ ?_<;>first|exact bx|intro _)|((with_reducible refine aY ?_);((refine ix ?_);rintro _ _ _ _ _ ⟨rfl,rfl⟩ _))|fail)
   ·rename_i hne _ _ _ _
    refine nP (n:=h.n+1) (ra.ext aD) (lC (n:=1) (xs:=[x]) rfl (by decide) (qo ⟨rfl,rfl⟩)) (by simpa using oa.ext aD ra.lt) (by simp at hn1 ⊢;omega) rfl (by simp;omega) (by simp;omega) ?_
    intro v2 h2 F2 kp rv ov
    (repeat' first|refine vs ?_|fail)
    refine⟨by omega,v2,F2,rfl,by omega,kp.ext (Ext.trans e ((Ext.refl _).push _)) fun b hb=>by have:=(oa.2 b hb).1;simpa using this,?_,ov⟩
    rw[hE]
    have: ¬ isT v.trace x=true:=by simp[isT];assumption
    rw[if_neg this];exact rv
   ·refine⟨by omega,va,F',rfl,by omega,e,?_,oa⟩
    rw[hE]
    have:isT v.trace x=true:=by simp[isT];assumption
    rw[if_pos this,List.append_nil];exact ra
  ·have:i=xs.length:=by omega
   subst this
   rw[List.take_length] at ra
   have hfl:(xs.filter fun x=>!isT v.trace x).length≤xs.length:=List.length_filter_le _ _
   have hn1:=e.1
   (repeat' first|refine vs ?_|refine gS ?_|fail)
   refine nP (n:=h.n+1) (ra.ext aD) (lC (n:=1) (xs:=[v]) rfl (by decide) (qo ⟨rfl,rfl⟩)) (by simpa using oa.ext aD ra.lt) (by simp at hn1 ⊢;omega) rfl (by simp;omega) (by simp;omega) ?_
   intro v3 h3 F3 k3 r3 o3
   have e3:Ext h h3:=k3.ext (Ext.trans E1 ((Ext.refl _).push _)) fun b hb=>by have:=(oa.2 b hb).1;omega
   have hL:(gK xs v).length≤1048577:=by simp[gK];omega
   change au h3 v3 (gK xs v) F3 at r3
   refine GY (fun k vs h4=>∃ d va F4,vs=[va,.int .i64 (gone (gK xs v) d)]∧k=(gK xs v).length - d∧d≤(gK xs v).length - m.toNat∧Ext h h4∧au h4 va ((gK xs v).drop d) F4∧Own h.n h4 F4) (gK xs v).length ⟨0,v3,F3,rfl,rfl,by omega,e3,r3,o3.mono (by omega) fun _ _=>rfl⟩ ?_
   rintro k vs h4 ⟨d,va,F4,rfl,rfl,hd,e4,r4,o4⟩
   simp only[g0,g1]
   refine bP r4 ?_
   rw[List.length_drop]
   refine MQ (fun hgt=>?_) (fun hle=>?_)
   ·obtain⟨x,hx,hdr,_⟩:=aP (show d < (gK xs v).length by omega)
    rw[hdr] at r4
    have h0:(x::(gK xs v).drop (d+1))[(0:Int).toNat]? =some x:=rfl
    refine dM (vV r4 (by decide) h0 rfl ?_)
    rintro b o cs Fi a5 ⟨rfl,rfl⟩ _
    clear a1 e3 E1 e
    (repeat' first|refine vs ?_|fail)
    obtain⟨re,oe⟩:=jy (h:=h4) (α:=bJ) (w:=3) rfl
    refine XY rfl (r4.ext aD) (o4.ext aD r4.lt) fun u r5=>?_
    refine nP (n:=h.n) re r5 (by rw[LG r5];simpa using oe h.n e4.1) (by have:=e4.1;simp;omega) rfl (by simp;omega) (by simp;omega) ?_
    intro v6 h6 F6 k6 r6 o6
    (repeat' first|refine vs ?_|fail)
    refine⟨_,?_,d+1,v6,F6,by rw[VW hx],rfl,by omega,k6.ext (e4.push _) (by have:=e4.1;simp;omega),by simpa using r6,o6⟩
    omega
   ·have hde:d=(gK xs v).length - m.toNat:=by omega
    (repeat' first|refine vs ?_|fail)
    refine⟨rfl,_,rfl,e4,va,F4,?_,?_,o4⟩
    ·rw[hde];simp[rem,hm,g]
    ·rw[hde] at r4;simpa[rem,hm] using r4
section
variable{P:Program} {h:AH} {Q:Nat→List AV→AH→Prop} {k:AV→Prog}
end
end Go.Proofs.YtkdjapahgmflbaaGreat
end
section
set_option maxHeartbeats 4000000
namespace Go.Proofs.YtkdjapahgmflbaaGreat
open Go Go.Ab
section
def TJ (x0:AV):Prog:=.op (.box x0) fun a=>.op (.fad 22 a) fun a=>Lg 0 a fun a=>.fin [.val a]
theorem ahJ (x0:AV):CC Tryz.prog KU [x0] (TJ x0):=cc Tryz.func45
end
theorem agG {h:AH} {x:Wld} {cs:List AV} {F:List Nat} (r:Cel.rep h x cs F):aM Tryz.prog KU [.agg cs] h (.int .i64 x.w.now):=by
 obtain⟨v0,v1,v2,v3,v4,v5,v6,v7,v8,v9,v10,F0,F1,F2,F3,F4,F5,F6,F7,F8,F9,F10,rfl,rfl,r0,r1,r2,r3,r4,r5,r6,r7,r8,r9,r10⟩:=r
 refine reader (ahJ _) (by simp only[old]) ?_
 unfold TJ
 (repeat' first|refine vs ?_|fail)
 exact pi rfl
end Go.Proofs.YtkdjapahgmflbaaGreat
end
