import Derived.Test.YtekfdoknfcedpaaGreatDKW1
import Derived.Test.YtekfdoknfcedpaaGreatDK4
import Derived.Test.YtekfdoknfcedpaaGreatDK5
import Derived.Test.YtekfdoknfcedpaaGreatDNm
section
set_option linter.unusedSimpArgs false
set_option linter.unusedVariables false
set_option maxHeartbeats 2000000
namespace Go.Proofs.YtekfdoknfcedpaaGreat
open Go Go.Ab
section
def Rx (x0:AV):Prog:=.op (.box x0) fun a=>Lg 1 a fun b=>Ln 0 b fun c=>.loop [.au,.int .i64 0] (fun a=>Bn .lss (g a 1) c fun c=>.ite c (Ix 1 b (g a 1) fun b=>.op (.ld1 b) fun b=>.op (.app 3 24 (g a 0) b) fun b=>Bn .add (g a 1) (.int .i64 1) fun a=>.leaf 0 [b,a]) (.leaf 2 [g a 0,g a 1])) fun b c=>ak b 1 (.leaf 1 c) (ak b 2 (Lg 2 a fun b=>Ln 0 b fun d=>.loop [g c 0,.int .i64 0] (fun a=>Bn .lss (g a 1) d fun c=>.ite c (Ix 1 b (g a 1) fun b=>.op (.ld1 b) fun b=>.op (.app 3 24 (g a 0) b) fun b=>Bn .add (g a 1) (.int .i64 1) fun a=>.leaf 0 [b,a]) (.leaf 4 [g a 0,g a 1])) fun b c=>ak b 1 (.leaf 1 c) (ak b 4 (Lg 3 a fun a=>.op (.app 3 24 (g c 0) a) fun a=>.fin [.val a]) .bad)) .bad)
theorem ahR (x0:AV):CC Tryz.prog tu [x0] (Rx x0):=cc Tryz.func198 [1,3,9,10,11,20,21,22] (fun _=>[])
def QV (x0:AV):Prog:=.op (.box x0) fun a=>.op (.aW 3 0 [] []) fun b=>.loop [b,.int .i64 0] (fun b=>Lg 1 a fun c=>Ln 0 c fun c=>Bn .lss (g b 1) c fun c=>.ite c (Lg 1 a fun a=>Ix 1 a (g b 1) fun a=>.op (.ld1 a) fun a=>.op (.app 3 24 (g b 0) a) fun a=>Bn .add (g b 1) (.int .i64 1) fun b=>.leaf 0 [a,b]) (.leaf 2 [g b 0,g b 1])) fun b c=>ak b 1 (.leaf 1 c) (ak b 2 (.loop [g c 0,.int .i64 0] (fun b=>Lg 2 a fun c=>Ln 0 c fun c=>Bn .lss (g b 1) c fun c=>.ite c (Lg 2 a fun a=>Ix 1 a (g b 1) fun a=>.op (.ld1 a) fun a=>.op (.app 3 24 (g b 0) a) fun a=>Bn .add (g b 1) (.int .i64 1) fun b=>.leaf 0 [a,b]) (.leaf 4 [g b 0,g b 1])) fun b c=>ak b 1 (.leaf 1 c) (ak b 4 (Lg 3 a fun a=>.op (.app 3 24 (g c 0) a) fun a=>.fin [.val a]) .bad)) .bad)
theorem ahk (x0:AV):CC Tryz.prog oJ [x0] (QV x0):=cc Tryz.func103 [1,3,4,5] (fun _=>[])
def Qo (x0 x1 x2 x3:AV):Prog:=.op (.box x0) fun a=>Ln 0 x1 fun b=>.loop [.tup [],.int .i64 0] (fun c=>Bn .lss (g c 1) b fun b=>.ite b (Ix 3 x1 (g c 1) fun b=>Ld 3 b fun b=>.op (.alloc [.int .i64 0,.int .i64 0,.int .i64 0]) fun d=>.op (.st 3 d b) fun _=>Lg 0 d fun b=>Bn .lss b (.int .i64 1) fun b=>Gf b false 1 d fun e=>.gop b false (.call bA [e,.int .i64 1,.int .i64 999]) fun e=>.gop b false (.una .not e) fun e=>Pk b (.bool true) e fun b=>Gf b false 2 d fun e=>Gf b false 0 a fun f=>.gop b false (.bin 0 .leq e f) fun e=>Pk b (.bool true) e fun b=>Gf b false 2 d fun e=>.gop b false (.bin 0 .gtr e (.int .i64 2147483647)) fun e=>Pk b (.bool true) e fun b=>.ite b (.fin [.val (.bool false)]) (Lg 2 d fun b=>Bn .quo b (.int .i64 8) fun b=>Lg 0 a fun a=>Bn .quo a (.int .i64 8) fun a=>Bn .sub b a fun a=>Bn .geq a (.int .i64 8) fun b=>Bn .eql x2 (.int .i64 0) fun e=>.scope (.ite e (Bn .eql a (.int .i64 0) fun a=>Gf a true 2 d fun b=>.gop a true (.bin 0 .rem b (.int .i64 8)) fun b=>.gop a true (.mv x3) fun c=>.gop a true (.bin 0 .eql b c) fun b=>Pk a b (.bool false) fun a=>.leaf 0 [a]) (Bn .eql x2 (.int .i64 1) fun c=>.scope (.ite c (Cl bA [a,.int .i64 1,.int .i64 7] fun a=>Gf a true 2 d fun b=>.gop a true (.bin 0 .quo b (.int .i64 8)) fun b=>.gop a true (.bin 0 .rem b (.int .i64 8)) fun b=>.gop a true (.mv x3) fun c=>.gop a true (.bin 0 .eql b c) fun b=>Pk a b (.bool false) fun a=>.leaf 0 [a]) (.leaf 0 [b])) (fun a=>.leaf 0 [g a 0]) fun a b=>ak a 1 (.leaf 1 b) .bad)) (fun a=>.op (.una .not (g a 0)) fun b=>.ite b (.fin [.val (.bool false)]) (Bn .add (g c 1) (.int .i64 1) fun b=>.leaf 0 [g a 0,b])) fun a b=>ak a 1 (.leaf 1 b) .bad)) (.leaf 2 [g c 0,g c 1])) fun a b=>ak a 1 (.leaf 1 b) (ak a 2 (.fin [.val (.bool true)]) .bad)
theorem agp (x0 x1 x2 x3:AV):CC Tryz.prog sS [x0,x1,x2,x3] (Qo x0 x1 x2 x3):=cc Tryz.func269 [2,3,4,12,13,14,15] (fun _=>[])
def Pt (x0 x1:AV):Prog:=Bn .quo x1 (.int .i64 8) fun a=>Bn .quo x0 (.int .i64 8) fun b=>Bn .eql a b fun a=>.ite a (Bn .rem x1 (.int .i64 8) fun a=>.fin [.val (.int .i64 1),.val a]) (Bn .quo x1 (.int .i64 8) fun a=>Bn .quo x0 (.int .i64 8) fun b=>Bn .sub a b fun a=>Bn .lss a (.int .i64 8) fun a=>.ite a (Bn .quo x1 (.int .i64 8) fun a=>Bn .rem a (.int .i64 8) fun a=>.fin [.val (.int .i64 2),.val a]) (.fin [.val (.int .i64 3),.val (.int .i64 0)]))
theorem aft (x0 x1:AV):CC Tryz.prog qB [x0,x1] (Pt x0 x1):=cc Tryz.func252
def QL (x0 x1 x2 x3:AV):Prog:=.op (.box x0) fun a=>.loop [.int .i64 0] (fun b=>Ln 0 x1 fun c=>Bn .lss (g b 0) c fun c=>.ite c (Ix 3 x1 (g b 0) fun c=>Ld 3 c fun c=>.op (.alloc [.int .i64 0,.int .i64 0,.int .i64 0]) fun d=>.op (.st 3 d c) fun _=>Lg 0 d fun c=>Bn .lss c (.int .i64 1) fun c=>Gf c false 1 d fun e=>.gop c false (.call bI [e,.int .i64 1,.int .i64 999]) fun e=>.gop c false (.una .not e) fun e=>Pk c (.bool true) e fun c=>Gf c false 2 d fun e=>Gf c false 0 a fun f=>.gop c false (.bin 0 .add f (.int .i64 1)) fun f=>.gop c false (.call bI [e,f,.int .i64 2147483647]) fun e=>.gop c false (.una .not e) fun e=>Pk c (.bool true) e fun c=>.ite c (.fin [.val (.bool false)]) (Lg 0 a fun a=>Lg 2 d fun c=>Cl qB [a,c] fun a=>.op (.ext a 0) fun c=>.op (.ext a 1) fun a=>Bn .neq c x2 fun c=>.gop c false (.mv a) fun a=>.gop c false (.mv x3) fun d=>.gop c false (.bin 0 .neq a d) fun a=>Pk c (.bool true) a fun a=>.ite a (.fin [.val (.bool false)]) (Bn .add (g b 0) (.int .i64 1) fun a=>.leaf 0 [a]))) (.leaf 2 [g b 0])) fun a b=>ak a 1 (.leaf 1 b) (ak a 2 (.fin [.val (.bool true)]) .bad)
theorem ahb (x0 x1 x2 x3:AV):CC Tryz.prog sV [x0,x1,x2,x3] (QL x0 x1 x2 x3):=cc Tryz.func177 [1,2,3,4,9] (fun _=>[])
def NR (x0 x1:AV):Prog:=.op (.box x0) fun a=>Lg 0 a fun a=>.op (.ld1 x1) fun b=>Bn .eql a b fun a=>.fin [.val a]
theorem acM (x0 x1:AV):CC Tryz.prog Ir [x0,x1] (NR x0 x1):=cc Tryz.func305
def ZF (x0 x1:AV):Prog:=Ln 0 x0 fun a=>.loop [.int .i64 0] (fun b=>Bn .lss (g b 0) a fun a=>.ite a (Ix 3 x0 (g b 0) fun a=>Ld 3 a fun a=>.op (.iV x1 [a]) fun a=>.ite a (.fin [.val (g b 0)]) (Bn .add (g b 0) (.int .i64 1) fun a=>.leaf 0 [a])) (.leaf 2 [g b 0])) fun a b=>ak a 1 (.leaf 1 b) (ak a 2 (.fin [.val (.int .i64 (-1))]) .bad)
theorem ZH (x0 x1:AV):CC Tryz.prog sw [x0,x1] (ZF x0 x1):=cc Tryz.func276 [0,1,7,8] (fun _=>[])
def Qk (x0 x1:AV):Prog:=.op (.box x1) fun a=>.op (.mP Ir [a]) fun a=>Cl sw [x0,a] fun a=>.fin [.val a]
theorem agk (x0 x1:AV):CC Tryz.prog sQ [x0,x1] (Qk x0 x1):=cc Tryz.func243
def Qq (x0:AV):Prog:=.op (.box x0) fun a=>Lg 0 a fun b=>Cl bA [b,.int .i64 0,.int .i64 2147483647] fun b=>.op (.una .not b) fun b=>Gf b false 1 a fun c=>.gop b false (.len 0 c) fun c=>.gop b false (.bin 0 .neq c (.int .i64 8)) fun c=>Pk b (.bool true) c fun b=>Gf b false 2 a fun c=>.gop b false (.len 0 c) fun c=>.gop b false (.bin 0 .neq c (.int .i64 8)) fun c=>Pk b (.bool true) c fun b=>.gop b false (.ldn 4 a) fun c=>Gf b false 3 a fun d=>.gop b false (.call sS [c,d,.int .i64 2,.int .i64 0]) fun c=>.gop b false (.una .not c) fun c=>Pk b (.bool true) c fun b=>.ite b (.fin [.val (.bool false)]) (.loop [.int .i64 0] (fun b=>Bn .lss (g b 0) (.int .i64 8) fun c=>.ite c (Ld 4 a fun c=>Lg 1 a fun d=>Ix 1 d (g b 0) fun d=>.op (.ld1 d) fun d=>Cl sS [c,d,.int .i64 0,g b 0] fun c=>.op (.una .not c) fun c=>.gop c false (.ldn 4 a) fun d=>Gf c false 2 a fun a=>.gop c false (.mv (g b 0)) fun e=>.gop c false (.idx 1 a e) fun a=>.gop c false (.ld1 a) fun a=>.gop c false (.mv (g b 0)) fun e=>.gop c false (.call sS [d,a,.int .i64 1,e]) fun a=>.gop c false (.una .not a) fun a=>Pk c (.bool true) a fun a=>.ite a (.fin [.val (.bool false)]) (Bn .add (g b 0) (.int .i64 1) fun a=>.leaf 0 [a])) (.leaf 2 [g b 0])) fun b c=>ak b 1 (.leaf 1 c) (ak b 2 (Ld 4 a fun a=>Cl tu [a] fun a=>Ln 0 a fun b=>.loop [.int .i64 0] (fun c=>Bn .lss (g c 0) b fun b=>.ite b (Ix 3 a (g c 0) fun b=>Ld 3 b fun b=>.op (.alloc [.int .i64 0,.int .i64 0,.int .i64 0]) fun d=>.op (.st 3 d b) fun _=>Lg 0 d fun b=>Cl sQ [a,b] fun a=>Bn .neq a (g c 0) fun a=>.ite a (.fin [.val (.bool false)]) (Bn .add (g c 0) (.int .i64 1) fun a=>.leaf 0 [a])) (.leaf 4 [g c 0])) fun b c=>ak b 1 (.leaf 1 c) (ak b 4 (Ln 0 a fun a=>Bn .leq a (.int .i64 16) fun a=>.fin [.val a]) .bad)) .bad))
theorem agr (x0:AV):CC Tryz.prog jY [x0] (Qq x0):=cc Tryz.func197 [1,3,4,56,57,58] (fun r=>if r=6 then[(0,[]),(1,[]),(2,[]),(3,[]),(4,[]),(5,[]),(6,[]),(7,[]),(8,[]),(9,[]),(10,[]),(11,[]),(12,[]),(13,[]),(14,[]),(15,[]),(16,[]),(17,[]),(18,[]),(19,[])] else[])
def PS (x0:AV):Prog:=.op (.box x0) fun a=>Lg 1 a fun b=>Ln 0 b fun b=>Bn .neq b (.int .i64 8) fun b=>Gf b false 2 a fun c=>.gop b false (.len 0 c) fun c=>.gop b false (.bin 0 .neq c (.int .i64 8)) fun c=>Pk b (.bool true) c fun b=>Gf b false 0 a fun c=>.gop b false (.call bI [c,.int .i64 0,.int .i64 2147483647]) fun c=>.gop b false (.una .not c) fun c=>Pk b (.bool true) c fun b=>.gop b false (.ldn 4 a) fun c=>Gf b false 3 a fun d=>.gop b false (.call sV [c,d,.int .i64 3,.int .i64 0]) fun c=>.gop b false (.una .not c) fun c=>Pk b (.bool true) c fun b=>.ite b (.fin [.val (.bool false)]) (.loop [.int .i64 0] (fun b=>Bn .lss (g b 0) (.int .i64 8) fun c=>.ite c (Ld 4 a fun c=>Lg 1 a fun d=>Ix 1 d (g b 0) fun d=>.op (.ld1 d) fun d=>Cl sV [c,d,.int .i64 1,g b 0] fun c=>.op (.una .not c) fun c=>.gop c false (.ldn 4 a) fun d=>Gf c false 2 a fun a=>.gop c false (.mv (g b 0)) fun e=>.gop c false (.idx 1 a e) fun a=>.gop c false (.ld1 a) fun a=>.gop c false (.mv (g b 0)) fun e=>.gop c false (.call sV [d,a,.int .i64 2,e]) fun a=>.gop c false (.una .not a) fun a=>Pk c (.bool true) a fun a=>.ite a (.fin [.val (.bool false)]) (Bn .add (g b 0) (.int .i64 1) fun a=>.leaf 0 [a])) (.leaf 2 [g b 0])) fun b c=>ak b 1 (.leaf 1 c) (ak b 2 (Ld 4 a fun a=>Cl oJ [a] fun a=>.loop [.int .i64 0,.tup []] (fun b=>Ln 0 a fun c=>Bn .lss (g b 0) c fun c=>.ite c (.loop [.int .i64 0] (fun c=>Bn .lss (g c 0) (g b 0) fun d=>.ite d (Ix 3 a (g c 0) fun d=>Lg 0 d fun d=>Ix 3 a (g b 0) fun a=>Lg 0 a fun a=>Bn .eql d a fun a=>.ite a (.fin [.val (.bool false)]) (Bn .add (g c 0) (.int .i64 1) fun a=>.leaf 0 [a])) (.leaf 6 [g c 0])) fun a c=>ak a 1 (.leaf 1 c) (ak a 6 (Bn .add (g b 0) (.int .i64 1) fun a=>.leaf 0 [a,g c 0]) .bad)) (.leaf 4 [g b 0,g b 1])) fun b c=>ak b 1 (.leaf 1 c) (ak b 4 (Ln 0 a fun a=>Bn .leq a (.int .i64 16) fun a=>.fin [.val a]) .bad)) .bad))
theorem afH (x0:AV):CC Tryz.prog jX [x0] (PS x0):=cc Tryz.func102 [1,3,4,5,6] (fun r=>if r=6 then[(0,[]),(1,[]),(2,[]),(3,[]),(4,[]),(5,[]),(6,[]),(7,[]),(8,[]),(9,[]),(10,[]),(11,[]),(12,[]),(13,[]),(14,[]),(15,[]),(16,[]),(17,[]),(18,[]),(19,[])] else if r=15 then[(0,[]),(1,[]),(2,[]),(3,[]),(4,[]),(5,[]),(6,[]),(7,[]),(8,[]),(9,[]),(10,[])] else[])
end
def timers (w:bD):List Ab.Timer:=(w.near.flatten++w.far.flatten)++w.rest
theorem FN {l:List (List Ab.Timer)} {i:Nat} {x:List Ab.Timer} (ht:l.take (i+1)=l.take i++[x]):(l.take (i+1)).flatten=(l.take i).flatten++x:=by rw[ht];simp
theorem mG:∀ l:List (List Ab.Timer),l.flatten.length≤szs l
 |[]=>by simp
 |x::l=>by
  have:=mG l
  have h2:Sz.sz x=x.length+szs x:=rfl
  simp only[List.flatten_cons,List.length_append,szs];omega
theorem DU {h:AH} {w:bD} {v0 v1 v2:AV} {F0 F1 F2:List Nat} (hs:Sz.sz w≤67108864) (r0:aj h v0 w.near F0) (r1:aj h v1 w.far F1) (r2:aj h v2 w.rest F2):bE Tryz.prog tu [.agg (w.cs v0 v1 v2)] h (ng Ab.Timer h (timers w)):=by
 have hsz:Sz.sz w=(w.near.length+szs w.near)+(w.far.length+szs w.far)+(w.rest.length+szs w.rest):=rfl
 refine ahR _ ?_
 unfold Rx
 have hb0:=mG w.near
 have hb1:=mG w.far
 (repeat' first|refine vs ?_|fail)
 refine aT w.near.length (fun i vs h1=>∃ u G,vs=[u,.int .i64 (i:Int)]∧i≤w.near.length∧Ext (h.push ⟨w.cs v0 v1 v2,0,0⟩) h1∧aj h1 u (w.near.take i).flatten G∧Own (h.n+1) h1 G) ⟨.au,[],rfl,Nat.zero_le _,aA,aj.au,Own.nil⟩ ?_
 rintro i vs h1 _ ⟨u,G,rfl,hi,e1,ru,ou⟩
 have n1:=e1.1
 simp only[aD] at n1
 simp only[g0,g1]
 have hb:=mG (w.near.take i)
 have hle:=iP w.near i
 refine br (fun hlt=>?_) (fun hge=>?_)
 ·obtain⟨x,hx,-,htk⟩:=aQ (show i < w.near.length by omega)
  have hm:=bf (List.mem_of_getElem? hx)
  have hx2:Sz.sz x=x.length+szs x:=rfl
  refine vs ?_
  refine bX r0 hx rfl ?_
  rintro b o _ Fi a ⟨vx,rfl,rx⟩ _
  (repeat' first|refine vs ?_|fail)
  refine qh (n:=h.n+1) (xs:=(w.near.take i).flatten) (ys:=x) (Fx:=G) ah (ah:aj _ vx x Fi) aZ aL rfl ?_ ?_ ?_
  ·omega
  ·omega
  intro u' h' F' ek kp r' o'
  (repeat' first|refine vs ?_|fail)
  exact⟨by omega,u',F',rfl,by omega,ek _ e1 (by simp only[aD];omega),by rw[FN htk];exact r',o'⟩
 ·have e:i=w.near.length:=by omega
  rw[e,List.take_length] at ru
  clear hb hle
  (repeat' first|refine vs ?_|((with_reducible refine bF ?_);simp only[g0,g1,g2]))
  refine aT w.far.length (fun i vs h1=>∃ u G,vs=[u,.int .i64 (i:Int)]∧i≤w.far.length∧Ext (h.push ⟨w.cs v0 v1 v2,0,0⟩) h1∧aj h1 u (w.near.flatten++(w.far.take i).flatten) G∧Own (h.n+1) h1 G) ⟨u,G,rfl,Nat.zero_le _,e1,by simpa using ru,ou⟩ ?_
  clear ru ou e1 n1
  rintro i vs h1 _ ⟨u,G,rfl,hi,e1,ru,ou⟩
  have n1:=e1.1
  simp only[aD] at n1
  simp only[g0,g1]
  have hb:=mG (w.far.take i)
  have hle:=iP w.far i
  refine br (fun hlt=>?_) (fun hge=>?_)
  ·obtain⟨x,hx,-,htk⟩:=aQ (show i < w.far.length by omega)
   have hm:=bf (List.mem_of_getElem? hx)
   have hx2:Sz.sz x=x.length+szs x:=rfl
   refine vs ?_
   refine bX r1 hx rfl ?_
   rintro b o _ Fi a ⟨vx,rfl,rx⟩ _
   (repeat' first|refine vs ?_|fail)
   refine qh (n:=h.n+1) (xs:=w.near.flatten++(w.far.take i).flatten) (ys:=x) (Fx:=G) ah (ah:aj _ vx x Fi) aZ aL rfl ?_ ?_ ?_
   ·rw[List.length_append];omega
   ·rw[List.length_append];omega
   intro u' h' F' ek kp r' o'
   (repeat' first|refine vs ?_|fail)
   exact⟨by omega,u',F',rfl,by omega,ek _ e1 (by simp only[aD];omega),by rw[FN htk,←List.append_assoc];exact r',o'⟩
  ·have e:i=w.far.length:=by omega
   rw[e,List.take_length] at ru
   (repeat' first|refine vs ?_|((with_reducible refine bF ?_);simp only[g0,g1,g2]))
   refine qh (n:=h.n+1) (xs:=w.near.flatten++w.far.flatten) (ys:=w.rest) (Fx:=G) ah (ah:aj _ v2 w.rest F2) aZ aL rfl ?_ ?_ ?_
   ·rw[List.length_append];omega
   ·rw[List.length_append];omega
   intro u' h' F' ek kp r' o'
   (repeat' first|refine vs ?_|fail)
   exact⟨rfl,_,rfl,ek _ aA (by omega),_,r',o'.mono (by omega) fun _ _=>rfl⟩
theorem vU {h:AH} {w:bD} {v0 v1 v2:AV} {F0 F1 F2:List Nat} (hs:Sz.sz w≤67108864) (r0:aj h v0 w.near F0) (r1:aj h v1 w.far F1) (r2:aj h v2 w.rest F2):bE Tryz.prog oJ [.agg (w.cs v0 v1 v2)] h (ng Ab.Timer h (timers w)):=by
 have hsz:Sz.sz w=(w.near.length+szs w.near)+(w.far.length+szs w.far)+(w.rest.length+szs w.rest):=rfl
 refine ahk _ ?_
 unfold QV
 have hb0:=mG w.near
 have hb1:=mG w.far
 have hl0:=r0.small
 have hl1:=r1.small
 refine vs ?_
 obtain⟨re,oe⟩:=jc (h:=h.push ⟨w.cs v0 v1 v2,0,0⟩) (α:=Ab.Timer) (w:=3) rfl
 refine aT w.near.length (fun i vs h1=>∃ u G,vs=[u,.int .i64 (i:Int)]∧i≤w.near.length∧Ext (h.push ⟨w.cs v0 v1 v2,0,0⟩) h1∧aj h1 u (w.near.take i).flatten G∧Own (h.n+1) h1 G) ⟨_,_,rfl,Nat.zero_le _,aA,re,oe _ (Nat.le_refl _)⟩ ?_
 rintro i vs h1 _ ⟨u,G,rfl,hi,e1,ru,ou⟩
 have n1:=e1.1
 simp only[aD] at n1
 simp only[g0,g1]
 have hb:=mG (w.near.take i)
 have hle:=iP w.near i
 refine vs ?_
 refine br (fun hlt=>?_) (fun hge=>?_)
 ·obtain⟨x,hx,-,htk⟩:=aQ (show i < w.near.length by omega)
  have hm:=bf (List.mem_of_getElem? hx)
  have hx2:Sz.sz x=x.length+szs x:=rfl
  refine vs ?_
  refine bX r0 hx rfl ?_
  rintro b o _ Fi a ⟨vx,rfl,rx⟩ _
  (repeat' first|refine vs ?_|fail)
  refine qh (n:=h.n+1) (xs:=(w.near.take i).flatten) (ys:=x) (Fx:=G) ah (ah:aj _ vx x Fi) aZ aL rfl ?_ ?_ ?_
  ·omega
  ·omega
  intro u' h' F' ek kp r' o'
  (repeat' first|refine vs ?_|fail)
  exact⟨by omega,u',F',rfl,by omega,ek _ e1 (by simp only[aD];omega),by rw[FN htk];exact r',o'⟩
 ·have e:i=w.near.length:=by omega
  rw[e,List.take_length] at ru
  clear hb hle
  (repeat' first|refine vs ?_|((with_reducible refine bF ?_);simp only[g0,g1,g2]))
  refine aT w.far.length (fun i vs h1=>∃ u G,vs=[u,.int .i64 (i:Int)]∧i≤w.far.length∧Ext (h.push ⟨w.cs v0 v1 v2,0,0⟩) h1∧aj h1 u (w.near.flatten++(w.far.take i).flatten) G∧Own (h.n+1) h1 G) ⟨u,G,rfl,Nat.zero_le _,e1,by simpa using ru,ou⟩ ?_
  clear ru ou e1 n1
  rintro i vs h1 _ ⟨u,G,rfl,hi,e1,ru,ou⟩
  have n1:=e1.1
  simp only[aD] at n1
  simp only[g0,g1]
  have hb:=mG (w.far.take i)
  have hle:=iP w.far i
  refine vs ?_
  refine br (fun hlt=>?_) (fun hge=>?_)
  ·obtain⟨x,hx,-,htk⟩:=aQ (show i < w.far.length by omega)
   have hm:=bf (List.mem_of_getElem? hx)
   have hx2:Sz.sz x=x.length+szs x:=rfl
   refine vs ?_
   refine bX r1 hx rfl ?_
   rintro b o _ Fi a ⟨vx,rfl,rx⟩ _
   (repeat' first|refine vs ?_|fail)
   refine qh (n:=h.n+1) (xs:=w.near.flatten++(w.far.take i).flatten) (ys:=x) (Fx:=G) ah (ah:aj _ vx x Fi) aZ aL rfl ?_ ?_ ?_
   ·rw[List.length_append];omega
   ·rw[List.length_append];omega
   intro u' h' F' ek kp r' o'
   (repeat' first|refine vs ?_|fail)
   exact⟨by omega,u',F',rfl,by omega,ek _ e1 (by simp only[aD];omega),by rw[FN htk,←List.append_assoc];exact r',o'⟩
  ·have e:i=w.far.length:=by omega
   rw[e,List.take_length] at ru
   (repeat' first|refine vs ?_|((with_reducible refine bF ?_);simp only[g0,g1,g2]))
   refine qh (n:=h.n+1) (xs:=w.near.flatten++w.far.flatten) (ys:=w.rest) (Fx:=G) ah (ah:aj _ v2 w.rest F2) aZ aL rfl ?_ ?_ ?_
   ·rw[List.length_append];omega
   ·rw[List.length_append];omega
   intro u' h' F' ek kp r' o'
   (repeat' first|refine vs ?_|fail)
   exact⟨rfl,_,rfl,ek _ aA (by omega),_,r',o'.mono (by omega) fun _ _=>rfl⟩
def iM (now kind slot:Int) (t:Ab.Timer):Prop:=1≤t.id∧(1≤t.trace∧t.trace≤999)∧now < t.at_∧t.at_≤2147483647∧
 ((kind=0∧t.at_ / 8=now / 8∧t.at_ % 8=slot)∨(kind=1∧1≤t.at_ / 8 - now / 8∧t.at_ / 8 - now / 8≤7∧t.at_ / 8 % 8=slot)∨(kind=2∧8≤t.at_ / 8 - now / 8))
theorem tm8 {a:Int} (h:0≤a):a.tmod 8=a % 8:=Int.tmod_eq_emod_of_nonneg h
theorem Pn {h:AH} {w:bD} {l:List Ab.Timer} {v v0 v1 v2:AV} {F:List Nat} {kind slot:Int} (h0:0≤w.now) (h1:w.now≤2147483647) (hk:kind=0∨kind=1∨kind=2) (r:aj h v l F):aO Tryz.prog sS [.agg (w.cs v0 v1 v2),v,.int .i64 kind,.int .i64 slot] h (.bool (bp (∀ t∈l,iM w.now kind slot t))):=by
 refine reader (agp _ _ _ _) (by simp only[old]) ?_
 unfold Qo
 have hsm:=r.small
 (repeat' first|refine vs ?_|fail)
 refine aT l.length (fun i vs h1=>∃ z,vs=[z,.int .i64 (i:Int)]∧i≤l.length∧Ext (h.push ⟨w.cs v0 v1 v2,0,0⟩) h1∧bZ l (fun _ t=>iM w.now kind slot t) i) ⟨_,rfl,Nat.zero_le _,aA,up0⟩ ?_
 rintro i vs h2 _ ⟨z,rfl,hi,e1,hu⟩
 simp only[g0,g1]
 refine br (fun hlt=>?_) (fun hge=>?_)
 ·obtain⟨x,hx,-,-⟩:=aQ (show i < l.length by omega)
  (repeat' first|refine vs ?_|(refine br ?_ ?_<;>first|exact bo|intro _)|((with_reducible refine ay bA ?_);(refine cZ gF ?_ ?_<;>intro hb<;>(first|replace hb:=dD hb|replace hb:=dH hb)))|((with_reducible refine aP ?_);((refine ix ?_);rintro _ _ _ _ _ ⟨rfl,rfl⟩ _))|((with_reducible refine bF ?_);simp only[g0,g1,g2]))
  all_goals(have t1:=tm8 (a:=x.at_);have t2:=tm8 (a:=x.at_ / 8))
  all_goals first
   |exact pf fun k=>iT hx (by unfold iM;omega) k
   |exact⟨by omega,_,rfl,by omega,aA,upS hu hx (by unfold iM;omega)⟩
 ·(repeat' first|refine vs ?_|fail)
  rw[show i=l.length by omega] at hu
  exact pt (fZ hu)
theorem CO {h:AH} {now at_:Int}:0≤now→now≤2147483647→0≤at_→at_≤2147483647→aO Tryz.prog qB [.int .i64 now,.int .i64 at_] h (.tup [.int .i64 (if at_ / 8=now / 8 then 1 else if at_ / 8 - now / 8 < 8 then 2 else 3),.int .i64 (if at_ / 8=now / 8 then at_ % 8 else if at_ / 8 - now / 8 < 8 then at_ / 8 % 8 else 0)]):=by
 intro h0 h1 h2 h3
 refine reader (aft _ _) (by simp[old,olds]) ?_
 unfold Pt
 have t1:=tm8 (a:=at_) h2
 have t2:=tm8 (a:=at_ / 8) (by omega)
 (repeat' first|refine vs ?_|(refine br ?_ ?_<;>first|exact bx|intro _)|fail)
 all_goals(refine⟨rfl,?_,Ext.refl _⟩;first|(simp_all;done)|(simp_all;omega))
theorem Jr {h:AH} {w:bD} {l:List Ab.Timer} {v v0 v1 v2:AV} {F:List Nat} {kind slot k1:Int} (h0:0≤w.now) (h1:w.now≤2147483647) (hk:kind=0∨kind=1∨kind=2∧slot=0) (hk1:k1=kind+1) (r:aj h v l F):aO Tryz.prog sV [.agg (w.cs v0 v1 v2),v,.int .i64 k1,.int .i64 slot] h (.bool (bp (∀ t∈l,iM w.now kind slot t))):=by
 subst hk1
 refine reader (ahb _ _ _ _) (by simp only[old]) ?_
 unfold QL
 have hsm:=r.small
 (repeat' first|refine vs ?_|fail)
 refine aT l.length (fun i vs h1=>vs=[.int .i64 (i:Int)]∧i≤l.length∧Ext (h.push ⟨w.cs v0 v1 v2,0,0⟩) h1∧bZ l (fun _ t=>iM w.now kind slot t) i) ⟨rfl,Nat.zero_le _,aA,up0⟩ ?_
 rintro i vs h2 _ ⟨rfl,hi,e1,hu⟩
 simp only[g0]
 refine vs ?_
 refine br (fun hlt=>?_) (fun hge=>?_)
 ·obtain⟨x,hx,-,-⟩:=aQ (show i < l.length by omega)
  (repeat' first|refine vs ?_|(refine br ?_ ?_<;>first|exact bx|intro _)|((with_reducible refine ay bI ?_);(refine cZ iw ?_ ?_<;>intro hb<;>(first|replace hb:=dD hb|replace hb:=dH hb)))|((with_reducible refine ay qB ?_);(refine aK (CO (by omega) (by omega) (by omega) (by omega)) ?_))|((with_reducible refine aP ?_);((refine ix ?_);rintro _ _ _ _ _ ⟨rfl,rfl⟩ _))|fail)
  all_goals first
   |exact pf fun k=>iT hx (by unfold iM;omega) k
   |exact⟨by omega,rfl,by omega,aA,upS hu hx (by unfold iM;omega)⟩
 ·(repeat' first|refine vs ?_|fail)
  rw[show i=l.length by omega] at hu
  exact pt (fZ hu)
def iD (k:Int) (t:Ab.Timer):Bool:=decide (t.id=k)
theorem aiz {h:AH} {b:Nat} {k:Int} (a:At h b 0 [.int .i64 k]):Looks Ab.Timer Tryz.prog h Ir [.ptr b 0] (iD k):=by
 rintro x cs F ⟨rfl,rfl⟩
 refine reader (acM _ _) (by simp only[old]) ?_
 unfold NR
 (repeat' first|refine vs ?_|(refine br ?_ ?_<;>first|exact bx|intro _)|fail)
 all_goals(refine pb ?_;simp[iD, *])
theorem Hg {h:AH} {xs:List Ab.Timer} {x0:AV} {F:List Nat} {f:FuncId} {caps:List AV} {p:Ab.Timer→Bool} (r:aj h x0 xs F) (hf:Looks Ab.Timer Tryz.prog h f caps p):
  aO Tryz.prog sw [x0,.fn f caps] h (.int .i64 (idx p xs)):=
 reader (ZH _ _) (by simp only[old]) (Kt (w:=3) rfl r hf)
theorem Jb {h:AH} {xs:List Ab.Timer} {x0:AV} {F:List Nat} {k:Int} (r:aj h x0 xs F):aO Tryz.prog sQ [x0,.int .i64 k] h (.int .i64 (idx (iD k) xs)):=by
 refine reader (agk _ _) (by simp only[old]) ?_
 unfold Qk
 (repeat' first|refine vs ?_|((with_reducible refine ay sw ?_);refine aK (Hg ah (aiz jC)) ?_)|fail)
 exact pi rfl
def ald {α:Type} (f:α→Int) (l:List α):Prop:=∀ (i:Nat) (x:α),l[i]? =some x→∀ (j:Nat) (y:α),j < i→l[j]? =some y→f y≠f x
theorem ajL {α:Type} {p:α→Bool} {l:List α} {i:Nat} {x:α} (hx:l[i]? =some x) (hp:p x=true):idx p l=i↔∀ (j:Nat) (y:α),j < i→l[j]? =some y→p y=false:=by
 constructor
 ·intro h j y hj hy
  rcases wD p l with⟨e,-⟩|⟨k,z,e,hz,hpz,hf⟩
  ·omega
  ·have:k=i:=by omega
   subst this
   rw[List.filter_eq_self] at hf
   have hm:y∈l.take k:=by
    rw[List.mem_iff_getElem?]
    exact⟨j,by rw[List.getElem?_take,if_pos hj];exact hy⟩
   simpa using hf y hm
 ·exact fun h=>uy hx hp h
def iA (w:bD):Prop:=(0≤w.now∧w.now≤2147483647)∧(w.near.length:Int)=8∧(w.far.length:Int)=8∧(∀ t∈w.rest,iM w.now 2 0 t)∧
 (∀ (i:Nat) (a b:List Ab.Timer),w.near[i]? =some a→w.far[i]? =some b→(∀ t∈a,iM w.now 0 i t)∧∀ t∈b,iM w.now 1 i t)∧ald (·.id) (timers w)∧((timers w).length:Int)≤16
theorem ai7 (t:Ab.Timer):iD t.id t=true:=by simp[iD]
theorem qA {h:AH} {w:bD} {v0 v1 v2:AV} {F0 F1 F2:List Nat} (hs:Sz.sz w≤67108864) (r0:aj h v0 w.near F0) (r1:aj h v1 w.far F1) (r2:aj h v2 w.rest F2):aO Tryz.prog jY [.agg (w.cs v0 v1 v2)] h (.bool (bp (iA w))):=by
 refine reader (agr _) (by simp only[old]) ?_
 unfold Qq
 (repeat' first|refine vs ?_|(refine br ?_ ?_<;>first|exact bx|intro _)|((with_reducible refine ay bA ?_);(refine cZ gF ?_ ?_<;>intro hb<;>(first|replace hb:=dD hb|replace hb:=dH hb)))|((with_reducible refine ay sS ?_);(refine aU (Pn (w:=w) (by omega) (by omega) (by omega) ah) ?_ ?_<;>intro hn))|fail)
 all_goals first
  |exact pf fun k=>by obtain⟨a1,a2,a3,a4,-⟩:=k;first|omega|contradiction
  |skip
 have jM:=hb
 have hrest:=hn
 refine aT 8 (fun i vs h1=>vs=[.int .i64 (i:Int)]∧i≤8∧Ext (h.push ⟨w.cs v0 v1 v2,0,0⟩) h1∧∀ (j:Nat) (a b:List Ab.Timer),j < i→w.near[j]? =some a→w.far[j]? =some b→(∀ t∈a,iM w.now 0 j t)∧∀ t∈b,iM w.now 1 j t) ⟨rfl,Nat.zero_le _,aA,fun j a b hj=>by omega⟩ ?_
 rintro i vs h1 _ ⟨rfl,hi,e1,hu⟩
 simp only[g0]
 refine br (fun hlt=>?_) (fun hge=>?_)
 ·obtain⟨x,hx,-,-⟩:=aQ (show i < w.near.length by omega)
  obtain⟨y,hy,-,-⟩:=aQ (show i < w.far.length by omega)
  (repeat' first|refine vs ?_|((with_reducible refine ay sS ?_);(refine aU (Pn (w:=w) (by omega) (by omega) (by omega) ah) ?_ ?_<;>intro hn))|((with_reducible refine aP ?_);((refine ix ?_);rintro _ _ _ _ _ ⟨_,rfl,_⟩ _))|fail)
  all_goals first
   |exact pf fun k=>by have k:=k.2.2.2.2.1 i x y hx hy;first|exact absurd k.1 (by assumption)|exact absurd k.2 (by assumption)
   |skip
  refine⟨by omega,rfl,by omega,aA,fun j a b hj ha hb=>?_⟩
  by_cases e:j=i
  ·subst e;rw[hx] at ha;rw[hy] at hb;cases ha;cases hb
   exact⟨by assumption,by assumption⟩
  ·exact hu j a b (by omega) ha hb
 ·(repeat' first|refine vs ?_|fail)
  refine aG (DU hs ah ah ah) ?_
  rintro w1 h2 ⟨e2,G1,q1,o1⟩
  refine bC q1 ?_
  have hsm:=q1.small
  refine aT (timers w).length (fun i vs h3=>vs=[.int .i64 (i:Int)]∧i≤(timers w).length∧Ext h2 h3∧bZ (timers w) (fun i x=>∀ (j:Nat) (y:Ab.Timer),j < i→(timers w)[j]? =some y→y.id≠x.id) i) ⟨rfl,Nat.zero_le _,Ext.refl _,up0⟩ ?_
  rintro k vs h3 _ ⟨rfl,hk,e3,hu3⟩
  simp only[g0]
  refine br (fun hlt=>?_) (fun Ms=>?_)
  ·obtain⟨x,hx,-,-⟩:=aQ (show k < (timers w).length by omega)
   have hf:=ajL hx (ai7 x)
   refine vs ?_
   refine bX q1 hx rfl ?_
   rintro b o _ Fi a ⟨rfl,rfl⟩ _
   (repeat' first|refine vs ?_|(refine br ?_ ?_<;>first|exact bx|intro _)|((with_reducible refine ay sQ ?_);refine aK (Jb ah) ?_)|fail)
   ·rename_i hne
    exact pf fun kk=>hne (hf.2 fun j y hj hy=>by have:=kk.2.2.2.2.2.1 k x hx j y hj hy;simpa[iD] using this)
   ·rename_i heq
    exact⟨by omega,rfl,by omega,aA,upS hu3 hx fun j y hj hy=>by have:=hf.1 heq j y hj hy;simpa[iD] using this⟩
  ·rw[show k=(timers w).length by omega] at hu3
   have hu3:=jE hu3
   (repeat' first|refine vs ?_|(refine br ?_ ?_<;>first|exact bx|intro _)|fail)
   ·exact pt ⟨jM,by omega,by omega,hrest,fun i' a b ha hb=>hu i' a b (by have:=(List.getElem?_eq_some_iff.1 ha).1;omega) ha hb,hu3,by omega⟩
   ·exact pf fun kk=>by have:=kk.2.2.2.2.2.2;omega
theorem qz {h:AH} {w:bD} {v0 v1 v2:AV} {F0 F1 F2:List Nat} (hs:Sz.sz w≤67108864) (r0:aj h v0 w.near F0) (r1:aj h v1 w.far F1) (r2:aj h v2 w.rest F2):aO Tryz.prog jX [.agg (w.cs v0 v1 v2)] h (.bool (bp (iA w))):=by
 refine reader (afH _) (by simp only[old]) ?_
 unfold PS
 (repeat' first|refine vs ?_|(refine br ?_ ?_<;>first|exact bx|intro _)|((with_reducible refine ay bI ?_);(refine cZ iw ?_ ?_<;>intro hb<;>(first|replace hb:=dD hb|replace hb:=dH hb)))|((with_reducible refine ay sV ?_);(refine aU (Jr (w:=w) (kind:=2) (by omega) (by omega) (by omega) (by rfl) ah) ?_ ?_<;>intro hn))|fail)
 all_goals first
  |exact pf fun k=>by obtain⟨a1,a2,a3,a4,-⟩:=k;first|omega|contradiction
  |skip
 have jM:=hb
 have hrest:=hn
 refine aT 8 (fun i vs h1=>vs=[.int .i64 (i:Int)]∧i≤8∧Ext (h.push ⟨w.cs v0 v1 v2,0,0⟩) h1∧∀ (j:Nat) (a b:List Ab.Timer),j < i→w.near[j]? =some a→w.far[j]? =some b→(∀ t∈a,iM w.now 0 j t)∧∀ t∈b,iM w.now 1 j t) ⟨rfl,Nat.zero_le _,aA,fun j a b hj=>by omega⟩ ?_
 rintro i vs h1 _ ⟨rfl,hi,e1,hu⟩
 simp only[g0]
 refine br (fun hlt=>?_) (fun hge=>?_)
 ·obtain⟨x,hx,-,-⟩:=aQ (show i < w.near.length by omega)
  obtain⟨y,hy,-,-⟩:=aQ (show i < w.far.length by omega)
  (repeat' first|refine vs ?_|((with_reducible refine ay sV ?_);((first|refine cZ (Jr (w:=w) (kind:=0) (l:=x) (by omega) (by omega) (by omega) (by rfl) ah) ?_ ?_|refine cZ (Jr (w:=w) (kind:=1) (l:=y) (by omega) (by omega) (by omega) (by rfl) ah) ?_ ?_)<;>intro hn<;>first|replace hn:=Fp hn|replace hn:=EO hn))|((with_reducible refine aP ?_);((refine ix ?_);rintro _ _ _ _ _ ⟨_,rfl,_⟩ _))|fail)
  all_goals first
   |exact pf fun k=>by have k:=k.2.2.2.2.1 i x y hx hy;first|exact absurd k.1 (by assumption)|exact absurd k.2 (by assumption)
   |skip
  refine⟨by omega,rfl,by omega,aA,fun j a b hj ha hb=>?_⟩
  by_cases e:j=i
  ·subst e;rw[hx] at ha;rw[hy] at hb;cases ha;cases hb
   exact⟨by assumption,by assumption⟩
  ·exact hu j a b (by omega) ha hb
 ·(repeat' first|refine vs ?_|fail)
  refine aG (vU hs ah ah ah) ?_
  rintro w1 h2 ⟨e2,G1,q1,o1⟩
  have hsm:=q1.small
  refine aT (timers w).length (fun i vs h3=>∃ z,vs=[.int .i64 (i:Int),z]∧i≤(timers w).length∧h3=h2∧bZ (timers w) (fun i x=>∀ (j:Nat) (y:Ab.Timer),j < i→(timers w)[j]? =some y→y.id≠x.id) i) ⟨_,rfl,Nat.zero_le _,rfl,up0⟩ ?_
  rintro k vs h3 _ ⟨z,rfl,hk,rfl,hu3⟩
  simp only[g0]
  refine bC q1 ?_
  refine br (fun hlt=>?_) (fun Ms=>?_)
  ·obtain⟨x,hx,-,-⟩:=aQ (show k < (timers w).length by omega)
   refine dz ?_
   refine aT k (fun j vs h4=>vs=[.int .i64 (j:Int)]∧j≤k∧h4=h3∧∀ (m:Nat) (y:Ab.Timer),m < j→(timers w)[m]? =some y→y.id≠x.id) ⟨rfl,Nat.zero_le _,rfl,fun m y hm=>by omega⟩ ?_
   rintro j vs h4 _ ⟨rfl,hj,rfl,hu4⟩
   simp only[g0]
   refine br (fun anA=>?_) (fun hge4=>?_)
   ·obtain⟨y,hy,-,-⟩:=aQ (show j < (timers w).length by omega)
    (repeat' first|refine vs ?_|(refine br ?_ ?_<;>first|exact bx|intro _)|((with_reducible refine aP ?_);((refine ix ?_);rintro _ _ _ _ _ ⟨rfl,rfl⟩ _))|fail)
    ·rename_i he
     exact pf fun kk=>kk.2.2.2.2.2.1 k x hx j y (by omega) hy he
    ·rename_i he
     refine⟨by omega,rfl,by omega,rfl,fun m z hm hz=>?_⟩
     by_cases e:m=j
     ·subst e;rw[hy] at hz;cases hz;exact he
     ·exact hu4 m z (by omega) hz
   ·have e:j=k:=by omega
    subst e
    (repeat' first|refine vs ?_|fail)
    exact⟨by omega,_,rfl,by omega,rfl,upS hu3 hx hu4⟩
  ·rw[show k=(timers w).length by omega] at hu3
   have hu3:=jE hu3
   (repeat' first|refine vs ?_|(refine br ?_ ?_<;>first|exact bx|intro _)|fail)
   ·exact pt ⟨jM,by omega,by omega,hrest,fun i' a b ha hb=>hu i' a b (by have:=(List.getElem?_eq_some_iff.1 ha).1;omega) ha hb,hu3,by omega⟩
   ·exact pf fun kk=>by have:=kk.2.2.2.2.2.2;omega
end Go.Proofs.YtekfdoknfcedpaaGreat
end
section
set_option linter.unusedSimpArgs false
set_option linter.unusedVariables false
set_option maxHeartbeats 2000000
namespace Go.Proofs.YtekfdoknfcedpaaGreat
open Go Go.Ab
section
def M5 (x0 x1:AV):Prog:=.op (.box x0) fun a=>Lg 0 a fun a=>.op (.ld1 x1) fun b=>Bn .eql a b fun a=>.fin [.val a]
theorem aav (x0 x1:AV):CC Tryz.prog Hw [x0,x1] (M5 x0 x1):=cc Tryz.func301
def Zr (x0 x1:AV):Prog:=Ln 0 x0 fun a=>.loop [.int .i64 0] (fun b=>Bn .lss (g b 0) a fun a=>.ite a (Ix 3 x0 (g b 0) fun a=>Ld 3 a fun a=>.op (.iV x1 [a]) fun a=>.ite a (.fin [.val (g b 0)]) (Bn .add (g b 0) (.int .i64 1) fun a=>.leaf 0 [a])) (.leaf 2 [g b 0])) fun a b=>ak a 1 (.leaf 1 b) (ak a 2 (.fin [.val (.int .i64 (-1))]) .bad)
theorem Zu (x0 x1:AV):CC Tryz.prog yw [x0,x1] (Zr x0 x1):=cc Tryz.func300 [0,1,7,8] (fun _=>[])
def NQ (x0 x1:AV):Prog:=.op (.box x1) fun a=>.op (.mP Hw [a]) fun a=>Cl yw [x0,a] fun a=>.fin [.val a]
theorem acL (x0 x1:AV):CC Tryz.prog yH [x0,x1] (NQ x0 x1):=cc Tryz.func238
def Qv (x0 x1:AV):Prog:=Ln 0 x0 fun a=>.loop [.int .i64 0] (fun b=>Bn .lss (g b 0) a fun a=>.ite a (Ix 3 x0 (g b 0) fun a=>Ld 3 a fun a=>.op (.alloc [.int .i64 0,.int .i64 0,.bool false]) fun c=>.op (.st 3 c a) fun _=>Lg 0 c fun a=>Cl bA [a,.int .i64 1,.int .i64 999] fun a=>.op (.una .not a) fun a=>Gf a false 1 c fun d=>.gop a false (.bin 0 .lss d (.int .i64 1)) fun d=>Pk a (.bool true) d fun a=>.gop a false (.mv x0) fun d=>Gf a false 0 c fun c=>.gop a false (.call yH [d,c]) fun c=>.gop a false (.mv (g b 0)) fun d=>.gop a false (.bin 0 .neq c d) fun c=>Pk a (.bool true) c fun a=>.ite a (.fin [.val (.bool false)]) (Bn .add (g b 0) (.int .i64 1) fun a=>.leaf 0 [a])) (.leaf 2 [g b 0])) fun a b=>ak a 1 (.leaf 1 b) (ak a 2 (Ln 0 x0 fun a=>Bn .leq a x1 fun a=>.fin [.val a]) .bad)
theorem agw (x0 x1:AV):CC Tryz.prog DC [x0,x1] (Qv x0 x1):=cc Tryz.func200 [0,1,7,8,9] (fun _=>[])
def PZ (x0 x1:AV):Prog:=.loop [.int .i64 0,.tup []] (fun a=>Ln 0 x0 fun b=>Bn .lss (g a 0) b fun b=>.ite b (Ix 3 x0 (g a 0) fun b=>Lg 0 b fun b=>Cl bI [b,.int .i64 1,.int .i64 999] fun b=>.op (.una .not b) fun b=>.gop b false (.mv x0) fun c=>.gop b false (.mv (g a 0)) fun d=>.gop b false (.idx 3 c d) fun c=>Gf b false 1 c fun c=>.gop b false (.bin 0 .lss c (.int .i64 1)) fun c=>Pk b (.bool true) c fun b=>.ite b (.fin [.val (.bool false)]) (.loop [.int .i64 0] (fun b=>Bn .lss (g b 0) (g a 0) fun c=>.ite c (Ix 3 x0 (g b 0) fun c=>Lg 0 c fun c=>Ix 3 x0 (g a 0) fun a=>Lg 0 a fun a=>Bn .eql c a fun a=>.ite a (.fin [.val (.bool false)]) (Bn .add (g b 0) (.int .i64 1) fun a=>.leaf 0 [a])) (.leaf 4 [g b 0])) fun b c=>ak b 1 (.leaf 1 c) (ak b 4 (Bn .add (g a 0) (.int .i64 1) fun a=>.leaf 0 [a,g c 0]) .bad))) (.leaf 2 [g a 0,g a 1])) fun a b=>ak a 1 (.leaf 1 b) (ak a 2 (Ln 0 x0 fun a=>Bn .leq a x1 fun a=>.fin [.val a]) .bad)
theorem afM (x0 x1:AV):CC Tryz.prog C9 [x0,x1] (PZ x0 x1):=cc Tryz.func100 [0,1,5,6] (fun r=>if r=9 then[(0,[]),(1,[]),(2,[]),(3,[]),(4,[]),(5,[]),(6,[]),(7,[]),(8,[]),(9,[]),(10,[])] else[])
def O6 (x0:AV):Prog:=.op (.box x0) fun a=>Lg 0 a fun b=>Cl bA [b,.int .i64 0,.int .i64 99] fun b=>Gf b true 1 a fun c=>.gop b true (.call bA [c,.int .i64 0,.int .i64 999]) fun c=>Pk b c (.bool false) fun b=>Gf b true 2 a fun c=>Gf b true 1 a fun d=>.gop b true (.call bA [c,.int .i64 0,d]) fun c=>Pk b c (.bool false) fun b=>Gf b true 3 a fun a=>.gop b true (.call bA [a,.int .i64 0,.int .i64 2147483647]) fun a=>Pk b a (.bool false) fun a=>.fin [.val a]
theorem aew (x0:AV):CC Tryz.prog CG [x0] (O6 x0):=cc Tryz.func199
def Oy (x0:AV):Prog:=.op (.box x0) fun a=>Lg 0 a fun b=>Cl bI [b,.int .i64 0,.int .i64 99] fun b=>Gf b true 1 a fun c=>.gop b true (.call bI [c,.int .i64 0,.int .i64 999]) fun c=>Pk b c (.bool false) fun b=>Gf b true 2 a fun c=>Gf b true 1 a fun d=>.gop b true (.call bI [c,.int .i64 0,d]) fun c=>Pk b c (.bool false) fun b=>Gf b true 3 a fun a=>.gop b true (.call bI [a,.int .i64 0,.int .i64 2147483647]) fun a=>Pk b a (.bool false) fun a=>.fin [.val a]
theorem adW (x0:AV):CC Tryz.prog Co [x0] (Oy x0):=cc Tryz.func99
def NU (x0:AV):Prog:=.op (.box x0) fun a=>Ld 7 a fun a=>Cl vY [a] fun a=>.op (.una .not a) fun a=>.fin [.val a]
theorem acP (x0:AV):CC Tryz.prog BZ [x0] (NU x0):=cc Tryz.func271
def ZK (x0 x1:AV):Prog:=Ln 0 x0 fun a=>.loop [.int .i64 0] (fun b=>Bn .lss (g b 0) a fun a=>.ite a (Ix 7 x0 (g b 0) fun a=>Ld 7 a fun a=>.op (.iV x1 [a]) fun a=>.ite a (.fin [.val (g b 0)]) (Bn .add (g b 0) (.int .i64 1) fun a=>.leaf 0 [a])) (.leaf 2 [g b 0])) fun a b=>ak a 1 (.leaf 1 b) (ak a 2 (.fin [.val (.int .i64 (-1))]) .bad)
theorem ZM (x0 x1:AV):CC Tryz.prog Bc [x0,x1] (ZK x0 x1):=cc Tryz.func317 [0,1,7,8] (fun _=>[])
def ML (x0 x1:AV):Prog:=Cl Bc [x0,x1] fun a=>Bn .geq a (.int .i64 0) fun a=>.fin [.val a]
theorem Zv (x0 x1:AV):CC Tryz.prog Ba [x0,x1] (ML x0 x1):=cc Tryz.func270
def Qm (x0:AV):Prog:=.op (.call Ba [x0,.fn BZ []]) fun a=>.op (.una .not a) fun a=>.fin [.val a]
theorem agm (x0:AV):CC Tryz.prog yO [x0] (Qm x0):=cc Tryz.func202
end
def isT (k:Int) (v:bg):Bool:=decide (v.trace=k)
theorem agA {h:AH} {b:Nat} {k:Int} (a:At h b 0 [.int .i64 k]):Looks bg Tryz.prog h Hw [.ptr b 0] (isT k):=by
 rintro x cs F ⟨rfl,rfl⟩
 refine reader (aav _ _) (by simp only[old]) ?_
 unfold M5
 (repeat' first|refine vs ?_|(refine br ?_ ?_<;>first|exact bx|intro _)|fail)
 all_goals(refine pb ?_;simp[isT, *])
theorem MK {h:AH} {xs:List bg} {x0:AV} {F:List Nat} {f:FuncId} {caps:List AV} {p:bg→Bool} (r:aj h x0 xs F) (hf:Looks bg Tryz.prog h f caps p):
  aO Tryz.prog yw [x0,.fn f caps] h (.int .i64 (idx p xs)):=
 reader (Zu _ _) (by simp only[old]) (Kt (w:=3) rfl r hf)
theorem Nl {h:AH} {xs:List bg} {x0:AV} {F:List Nat} {k:Int} (r:aj h x0 xs F):aO Tryz.prog yH [x0,.int .i64 k] h (.int .i64 (idx (isT k) xs)):=by
 refine reader (acL _ _) (by simp only[old]) ?_
 unfold NQ
 (repeat' first|refine vs ?_|((with_reducible refine ay yw ?_);refine aK (MK ah (agA jC)) ?_)|fail)
 exact pi rfl
def cAt (xs:List bg) (i:Nat) (v:bg):Prop:=(1≤v.trace∧v.trace≤999)∧1≤v.stamp∧∀ j u,j < i→xs[j]? =some u→u.trace≠v.trace
def cOk (xs:List bg) (k:Int):Prop:=(∀ i v,xs[i]? =some v→cAt xs i v)∧(xs.length:Int)≤k
theorem ai8 {xs:List bg} {i:Nat} {x:bg} (hx:xs[i]? =some x):idx (isT x.trace) xs=i↔∀ j u,j < i→xs[j]? =some u→u.trace≠x.trace:=by
 constructor
 ·intro h j u hj hu he
  unfold idx at h
  split at h
  ·have:j < xs.findIdx (isT x.trace):=by omega
   have:=List.not_of_lt_findIdx this
   have hj':=(List.getElem?_eq_some_iff.1 hu)
   rw[hj'.2] at this
   simp[isT,he] at this
  ·omega
 ·intro h
  exact uy hx (by simp[isT]) fun j u hj hu=>by simpa[isT] using h j u hj hu
theorem afb {h:AH} {xs:List bg} {x0:AV} {F:List Nat} {k:Int} (r:aj h x0 xs F):aO Tryz.prog DC [x0,.int .i64 k] h (.bool (bp (cOk xs k))):=by
 refine reader (agw _ _) (by simp only[old]) ?_
 unfold Qv
 have hsm:=r.small
 refine bC r (aT xs.length (fun i vs h1=>vs=[.int .i64 (i:Int)]∧i≤xs.length∧Ext h h1∧bZ xs (cAt xs) i) ⟨rfl,Nat.zero_le _,Ext.refl _,up0⟩ ?_)
 rintro i vs h1 _ ⟨rfl,hi,e1,hu⟩
 simp only[g0]
 refine br (fun hlt=>?_) (fun hge=>?_)
 ·obtain⟨x,hx,-,-⟩:=aQ (show i < xs.length by omega)
  have hf:=ai8 hx
  (repeat' first|refine vs ?_|(refine br ?_ ?_<;>first|exact bx|intro _)|((with_reducible refine ay bA ?_);(refine cZ gF ?_ ?_<;>intro hb<;>(first|replace hb:=dD hb|replace hb:=dH hb)))|((with_reducible refine ay yH ?_);refine aK (Nl ah) ?_)|((with_reducible refine aP ?_);((refine ix ?_);rintro _ _ _ _ _ ⟨rfl,rfl⟩ _))|fail)
  all_goals first
   |exact⟨by omega,rfl,by omega,aA,upS hu hx ⟨by omega,by omega,hf.1 (by assumption)⟩⟩
   |(refine pf fun k=>?_;obtain⟨a1,a2,a3⟩:=k.1 i x hx;first|omega|(have:=hf.2 a3;contradiction))
 ·rw[show i=xs.length by omega] at hu
  have hu:=jE hu
  (repeat' first|refine vs ?_|(refine br ?_ ?_<;>first|exact bx|intro _)|fail)
  all_goals first
   |exact pt ⟨hu,by omega⟩
   |exact pf fun k=>by have:=k.2;omega
theorem aeI {h:AH} {xs:List bg} {x0:AV} {F:List Nat} {k:Int} (r:aj h x0 xs F):aO Tryz.prog C9 [x0,.int .i64 k] h (.bool (bp (cOk xs k))):=by
 refine reader (afM _ _) (by simp only[old]) ?_
 unfold PZ
 have hsm:=r.small
 refine aT xs.length (fun i vs h1=>∃ z,vs=[.int .i64 (i:Int),z]∧i≤xs.length∧h1=h∧bZ xs (cAt xs) i) ⟨_,rfl,Nat.zero_le _,rfl,up0⟩ ?_
 rintro i vs h1 _ ⟨z,rfl,hi,rfl,hu⟩
 simp only[g0,g1]
 refine bC r ?_
 refine br (fun hlt=>?_) (fun hge=>?_)
 ·obtain⟨x,hx,-,-⟩:=aQ (show i < xs.length by omega)
  refine dz ?_
  (repeat' first|refine vs ?_|(refine br ?_ ?_<;>first|exact bx|intro _)|((with_reducible refine ay bI ?_);(refine cZ iw ?_ ?_<;>intro hb<;>(first|replace hb:=dD hb|replace hb:=dH hb)))|((with_reducible refine aP ?_);((refine ix ?_);rintro _ _ _ _ _ ⟨rfl,rfl⟩ _))|fail)
  all_goals first
   |(refine pf fun k=>?_;obtain⟨a1,a2,a3⟩:=k.1 i x hx;omega)
   |skip
  refine aT i (fun j vs h4=>vs=[.int .i64 (j:Int)]∧j≤i∧h4=h1∧∀ (m:Nat) (y:bg),m < j→xs[m]? =some y→y.trace≠x.trace) ⟨rfl,Nat.zero_le _,rfl,fun m y hm=>by omega⟩ ?_
  rintro j vs h4 _ ⟨rfl,hj,rfl,hu4⟩
  simp only[g0]
  refine br (fun anA=>?_) (fun hge4=>?_)
  ·obtain⟨y,hy,-,-⟩:=aQ (show j < xs.length by omega)
   (repeat' first|refine vs ?_|(refine br ?_ ?_<;>first|exact bx|intro _)|((with_reducible refine aP ?_);((refine ix ?_);rintro _ _ _ _ _ ⟨rfl,rfl⟩ _))|fail)
   ·rename_i he
    exact pf fun kk=>(kk.1 i x hx).2.2 j y (by omega) hy he
   ·rename_i he
    refine⟨by omega,rfl,by omega,rfl,fun m z hm hz=>?_⟩
    by_cases e:m=j
    ·subst e;rw[hy] at hz;cases hz;exact he
    ·exact hu4 m z (by omega) hz
  ·have e:j=i:=by omega
   subst e
   (repeat' first|refine vs ?_|fail)
   exact⟨by omega,_,rfl,by omega,rfl,upS hu hx ⟨by omega,by omega,hu4⟩⟩
 ·rw[show i=xs.length by omega] at hu
  have hu:=jE hu
  (repeat' first|refine vs ?_|(refine br ?_ ?_<;>first|exact bx|intro _)|fail)
  all_goals first
   |exact pt ⟨hu,by omega⟩
   |exact pf fun k=>by have:=k.2;omega
def qP (b:Bucket):Prop:=(0≤b.rate∧b.rate≤99)∧(0≤b.aV∧b.aV≤999)∧(0≤b.tokens∧b.tokens≤b.aV)∧(0≤b.at_∧b.at_≤2147483647)
theorem adD {h:AH} {b:Bucket}:aO Tryz.prog CG [.agg b.cs] h (.bool (bp (qP b))):=by
 refine reader (aew _) (by simp only[old,Bucket.cs,olds,and_self]) ?_
 unfold O6
 (repeat' first|refine vs ?_|((with_reducible refine ay bA ?_);(refine cZ gF ?_ ?_<;>intro hb<;>(first|replace hb:=dD hb|replace hb:=dH hb)))|fail)
 all_goals first
  |exact pt (by unfold qP;omega)
  |exact pf (by unfold qP;omega)
theorem ade {h:AH} {b:Bucket}:aO Tryz.prog Co [.agg b.cs] h (.bool (bp (qP b))):=by
 refine reader (adW _) (by simp only[old,Bucket.cs,olds,and_self]) ?_
 unfold Oy
 (repeat' first|refine vs ?_|((with_reducible refine ay bI ?_);(refine cZ iw ?_ ?_<;>intro hb<;>(first|replace hb:=dD hb|replace hb:=dH hb)))|fail)
 all_goals first
  |exact pt (by unfold qP;omega)
  |exact pf (by unfold qP;omega)
noncomputable def xK (x:Itm):Bool:=!bp (ku x)
theorem aiA {h:AH} {x:Itm} {v:AV} {F:List Nat} (ok:Cel.ok x.s) (hs:Sz.sz x.s≤67108864) (r:aj h v x.s.attrs F):aO Tryz.prog BZ [.agg (x.cs v)] h (.bool (xK x)):=by
 refine reader (acP _) (by simp only[old]) ?_
 unfold NU
 (repeat' first|refine vs ?_|((with_reducible refine ay vY ?_);refine aK (QJ ok hs ah) ?_)|fail)
 exact pb rfl
theorem ZI {h:AH} {xs:List Itm} {x0:AV} {F:List Nat} {f:FuncId} {caps:List AV} {p:Itm→Bool} (r:aj h x0 xs F) (hf:FY Itm Tryz.prog h f caps xs p):
  aO Tryz.prog Bc [x0,.fn f caps] h (.int .i64 (idx p xs)):=
 reader (ZM _ _) (by simp only[old]) (ajM (w:=7) rfl r hf)
theorem xu {α:Type} {p:α→Bool} {xs:List α}:0≤idx p xs↔∃ x∈xs,p x=true:=by
 rcases wD p xs with⟨e,hn⟩|⟨i,x,e,hx,hp,-⟩
 ·constructor
  ·intro h;omega
  ·rintro⟨x,hx,hp⟩
   have:x∈xs.filter (fun y=>p y):=List.mem_filter.2 ⟨hx,hp⟩
   exact absurd hp (by simpa using(by simp_all))
 ·exact⟨fun _=>⟨x,List.mem_of_getElem? hx,hp⟩,fun _=>by omega⟩
theorem Zq {h:AH} {xs:List Itm} {x0:AV} {F:List Nat} {f:FuncId} {caps:List AV} {p:Itm→Bool} (r:aj h x0 xs F) (hf:FY Itm Tryz.prog h f caps xs p):
  aO Tryz.prog Ba [x0,.fn f caps] h (.bool (bp (∃ x∈xs,p x=true))):=by
 refine reader (Zv _ _) (by simp only[old]) ?_
 unfold ML
 (repeat' first|refine vs ?_|(refine br ?_ ?_<;>first|exact bx|intro _)|((with_reducible refine ay Bc ?_);refine aK (ZI ah hf) ?_)|fail)
 ·exact pt (xu.1 (by assumption))
 ·exact pf fun k=>absurd (xu.2 k) (by assumption)
theorem Pm {h:AH} {xs:List Itm} {x0:AV} {F:List Nat} (ok:∀ x∈xs,Cel.ok x) (hs:xs.length+szs xs≤67108864) (r:aj h x0 xs F):aO Tryz.prog yO [x0] h (.bool (bp (∀ x∈xs,ku x))):=by
 refine reader (agm _) (by simp only[old]) ?_
 unfold Qm
 have hl:FY Itm Tryz.prog h BZ [] xs xK:=by
  rintro x cs F hm ⟨v,rfl,rx⟩
  have hx:=bf hm
  have hx2:Sz.sz x=Sz.sz x.s:=rfl
  exact aiA (ok x hm).2 (by omega) rx
 (repeat' first|refine vs ?_|((with_reducible refine ay Ba ?_);refine aK (Zq ah hl) ?_)|fail)
 refine pb ?_
 by_cases e:∀ x∈xs,ku x
 ·have: ¬ ∃ x∈xs,xK x=true:=by
   rintro⟨x,hx,hp⟩
   simp[xK,lu (e x hx)] at hp
  rw[lu e,kI this];rfl
 ·suffices hh:∃ x∈xs,xK x=true by rw[kI e,lu hh];rfl
  have⟨x,hx⟩:=Classical.not_forall.1 e
  have⟨hm,hx⟩:=Classical.not_imp.1 hx
  exact⟨x,hm,by simp[xK,kI hx]⟩
end Go.Proofs.YtekfdoknfcedpaaGreat
end
section
set_option linter.unusedSimpArgs false
set_option linter.unusedVariables false
set_option maxHeartbeats 2000000
namespace Go.Proofs.YtekfdoknfcedpaaGreat
open Go Go.Ab
section
def NZ (x0:AV):Prog:=Ln 0 x0 fun a=>.loop [.au,.int .i64 0] (fun b=>Bn .lss (g b 1) a fun a=>.ite a (Ix 1 x0 (g b 1) fun a=>.op (.ld1 a) fun a=>.op (.app 3 24 .au a) fun a=>.op (.aW 1 1 [.au] [(0,1,a)]) fun a=>.op (.app 1 24 (g b 0) a) fun a=>Bn .add (g b 1) (.int .i64 1) fun b=>.leaf 0 [a,b]) (.leaf 2 [g b 0,g b 1])) fun a b=>ak a 1 (.leaf 1 b) (ak a 2 (.fin [.val (g b 0)]) .bad)
theorem acU (x0:AV):CC Tryz.prog Cc [x0] (NZ x0):=cc Tryz.func194 [3,6,7,8] (fun _=>[])
def Pv (x0:AV):Prog:=.op (.aW 1 0 [] []) fun a=>.loop [a,.int .i64 0] (fun a=>Ln 0 x0 fun b=>Bn .lss (g a 1) b fun b=>.ite b (.op (.aW 3 0 [] []) fun b=>Ix 1 x0 (g a 1) fun c=>.op (.ld1 c) fun c=>.op (.app 3 24 b c) fun b=>.op (.aW 1 1 [.au] [(0,1,b)]) fun b=>.op (.app 1 24 (g a 0) b) fun b=>Bn .add (g a 1) (.int .i64 1) fun a=>.leaf 0 [b,a]) (.leaf 2 [g a 0,g a 1])) fun a b=>ak a 1 (.leaf 1 b) (ak a 2 (.fin [.val (g b 0)]) .bad)
theorem afu (x0:AV):CC Tryz.prog CU [x0] (Pv x0):=cc Tryz.func171 [0,3,4] (fun _=>[])
end
theorem Np (xs:List (List Ab.Timer)) (hs:xs.length+szs xs≤67108864):fI Tryz.prog Cc xs:=by
 intro v F h r
 refine acU _ ?_
 unfold NZ
 have hsm:=r.small
 refine bC r ?_
 refine aT xs.length (fun i vs h1=>∃ u G,vs=[u,.int .i64 (i:Int)]∧i≤xs.length∧Ext h h1∧aj h1 u (xs.take i) G∧Own h.n h1 G) ⟨.au,[],rfl,Nat.zero_le _,Ext.refl _,aj.au,Own.nil⟩ ?_
 rintro i vs h1 _ ⟨u,G,rfl,hi,e1,ru,ou⟩
 have n1:=e1.1
 simp only[g0,g1]
 refine br (fun hlt=>?_) (fun hge=>?_)
 ·obtain⟨x,hx,-,htk⟩:=aQ (show i < xs.length by omega)
  have hm:=bf (List.mem_of_getElem? hx)
  have hx2:Sz.sz x=x.length+szs x:=rfl
  refine vs ?_
  refine bX r hx rfl ?_
  rintro b o _ Fi a ⟨vx,rfl,rx⟩ _
  (repeat' first|refine vs ?_|fail)
  refine app0 (n:=h1.n) (ys:=x) (ah:aj h1 vx x Fi) (oU rx _) (Nat.le_refl _) rfl (by omega) ?_
  intro w2 h2 G2 e2 q2 o2
  have n2:=e2.1
  (repeat' first|refine vs ?_|fail)
  have hlen:(xs.take i).length=i:=by rw[List.length_take];omega
  refine app1 (n:=h.n) (xs:=xs.take i) (Fx:=G) (a:=x) ah ⟨_,rfl,q2⟩ (gH (aZ) o2 (by omega) jy) aL rfl ?_ ?_ ?_
  ·rw[hlen];omega
  ·rw[hlen];omega
  intro u' h' F' ek kp r' o'
  (repeat' first|refine vs ?_|fail)
  exact⟨by omega,u',F',rfl,by omega,ek h aA (Nat.le_refl _),by rw[htk];exact r',o'⟩
 ·(repeat' first|refine vs ?_|fail)
  exact⟨rfl,u,rfl,e1,G,by rw[show i=xs.length by omega,List.take_length] at ru;exact ru,ou⟩
theorem O8 (xs:List (List Ab.Timer)) (hs:xs.length+szs xs≤67108864):fI Tryz.prog CU xs:=by
 intro v F h r
 refine afu _ ?_
 unfold Pv
 have hsm:=r.small
 obtain⟨re,oe⟩:=jc (h:=h) (α:=List Ab.Timer) (w:=1) rfl
 refine vs ?_
 refine aT xs.length (fun i vs h1=>∃ u G,vs=[u,.int .i64 (i:Int)]∧i≤xs.length∧Ext h h1∧aj h1 u (xs.take i) G∧Own h.n h1 G) ⟨_,_,rfl,Nat.zero_le _,(Ext.refl _).push _,by rw[List.take_zero];exact re,oe _ (Nat.le_refl _)⟩ ?_
 rintro i vs h1 _ ⟨u,G,rfl,hi,e1,ru,ou⟩
 have n1:=e1.1
 simp only[g0,g1]
 refine bC r ?_
 refine br (fun hlt=>?_) (fun hge=>?_)
 ·obtain⟨x,hx,-,htk⟩:=aQ (show i < xs.length by omega)
  have hm:=bf (List.mem_of_getElem? hx)
  have hx2:Sz.sz x=x.length+szs x:=rfl
  refine vs ?_
  refine bX r hx rfl ?_
  rintro b o _ Fi a ⟨vx,rfl,rx⟩ _
  (repeat' first|refine vs ?_|fail)
  refine GV (h:=h1) (n:=h1.n) (ys:=x) (ah:aj h1 vx x Fi) (oU rx _) (Nat.le_refl _) rfl (by omega) ?_
  intro w2 h2 G2 e2 q2 o2
  have n2:=e2.1
  (repeat' first|refine vs ?_|fail)
  have hlen:(xs.take i).length=i:=by rw[List.length_take];omega
  refine app1 (n:=h.n) (xs:=xs.take i) (Fx:=G) (a:=x) ah ⟨_,rfl,q2⟩ (gH (aZ) o2 (by omega) jy) aL rfl ?_ ?_ ?_
  ·rw[hlen];omega
  ·rw[hlen];omega
  intro u' h' F' ek kp r' o'
  (repeat' first|refine vs ?_|fail)
  exact⟨by omega,u',F',rfl,by omega,ek h aA (Nat.le_refl _),by rw[htk];exact r',o'⟩
 ·(repeat' first|refine vs ?_|fail)
  exact⟨rfl,u,rfl,e1,G,by rw[show i=xs.length by omega,List.take_length] at ru;exact ru,ou⟩
end Go.Proofs.YtekfdoknfcedpaaGreat
end
section
set_option linter.unusedSimpArgs false
set_option linter.unusedVariables false
set_option maxHeartbeats 2000000
namespace Go.Proofs.YtekfdoknfcedpaaGreat
open Go Go.Ab
section
def NW (x0:AV):Prog:=.op (.box x0) fun a=>.op (.alloc [.int .i64 0,.au,.au,.au]) fun b=>.op (.fad 0 a) fun c=>.op (.ld1 c) fun d=>Lg 1 a fun e=>.op (.fad 2 a) fun f=>.op (.ld1 f) fun i=>.op (.fad 3 a) fun a=>.op (.ld1 a) fun j=>Cl Cc [e] fun e=>.chk (.ld1 c) d (.chk (.ld1 f) i (.chk (.ld1 a) j (Cl Cc [i] fun f=>.chk (.ld1 c) d (.chk (.ld1 a) j (.op (.app 3 24 .au j) fun a=>.chk (.ld1 c) d (.op (.build [.int .i64 0,.au,.au,.au] [(0,1,d),(1,1,e),(2,1,f),(3,1,a)]) fun a=>.op (.st 4 b a) fun _=>.fin [.cn 4 b]))))))
theorem acR (x0:AV):CC Tryz.prog vD [x0] (NW x0):=cc Tryz.func121 [] (fun r=>if r=1 then[(0,[]),(1,[]),(2,[]),(3,[]),(5,[]),(6,[]),(8,[]),(9,[]),(4,[1,6,9]),(7,[1,9]),(10,[1]),(11,[]),(12,[])] else[])
end
theorem BH (x:bD) (hs:Sz.sz x≤67108864):dJ bD Tryz.prog vD x:=by
 rintro cs F h ⟨v0,v1,v2,F0,F1,F2,rfl,rfl,r0,r1,r2⟩
 have hsz:Sz.sz x=(x.near.length+szs x.near)+(x.far.length+szs x.far)+(x.rest.length+szs x.rest):=rfl
 refine acR _ ?_
 unfold NW
 (repeat' first|refine vs ?_|fail)
 refine aG (Np x.near (by omega) _ _ _ ah) ?_
 rintro w1 h1 ⟨e1,G1,q1,o1⟩
 have n1:=e1.1
 (try simp only[aD,aN] at n1)
 (repeat' first|refine vs ?_|fail)
 refine aG (Np x.far (by omega) _ _ _ ah) ?_
 rintro w2 h2 ⟨e2,G2,q2,o2⟩
 have n2:=e2.1
 (repeat' first|refine vs ?_|fail)
 refine app0 (ys:=x.rest) (ah:aj _ v2 x.rest F2) (oU r2 _) (Nat.le_refl _) rfl (by omega) ?_
 intro w3 h3 G3 e3 q3 o3
 have n3:=e3.1
 (repeat' first|refine vs ?_|fail)
 exact⟨rfl,_,rfl,aA,_,_,rfl,⟨_,_,_,_,_,_,rfl,rfl,ah,ah,ah⟩,(dA bT (dA bT bT dL) dL).1⟩
end Go.Proofs.YtekfdoknfcedpaaGreat
end
section
set_option linter.unusedSimpArgs false
set_option linter.unusedVariables false
set_option maxHeartbeats 2000000
namespace Go.Proofs.YtekfdoknfcedpaaGreat
open Go Go.Ab
section
def Qn (x0:AV):Prog:=.op (.box x0) fun a=>.op (.alloc kN) fun b=>Ld 5 a fun c=>.op (.alloc kN) fun d=>.op (.st 5 d c) fun _=>Sg 4 d .au fun _=>Lg 4 a fun a=>Ln 0 a fun c=>.loop [.int .i64 0] (fun b=>Bn .lss (g b 0) c fun c=>.ite c (Ix 5 a (g b 0) fun a=>Ld 5 a fun a=>.op (.alloc kN) fun c=>.op (.st 5 c a) fun _=>.op (.fad 4 d) fun a=>.op (.ld1 a) fun e=>Ld 5 c fun c=>Cl vP [c] fun c=>.chk (.ld1 a) e (.op (.aW 5 1 kN [(0,5,c)]) fun a=>.op (.app 5 72 e a) fun a=>Sg 4 d a fun _=>Bn .add (g b 0) (.int .i64 1) fun a=>.leaf 0 [a])) (.leaf 2 [g b 0])) fun a c=>ak a 1 (.leaf 1 c) (ak a 2 (Ld 5 d fun a=>.op (.st 5 b a) fun _=>.fin [.cn 5 b]) .bad)
theorem agn (x0:AV):CC Tryz.prog vP [x0] (Qn x0):=cc Tryz.func192 [2,3,9,10,11] (fun r=>if r=6 then[(0,[]),(1,[]),(2,[]),(3,[1]),(4,[]),(5,[]),(6,[]),(7,[])] else[])
def QO (x0:AV):Prog:=.op (.box x0) fun a=>.op (.alloc kN) fun b=>Ld 5 a fun c=>.op (.alloc kN) fun d=>.op (.st 5 d c) fun _=>.op (.aW 5 0 [] []) fun c=>Sg 4 d c fun _=>.loop [.int .i64 0] (fun b=>Lg 4 a fun c=>Ln 0 c fun c=>Bn .lss (g b 0) c fun c=>.ite c (Lg 4 a fun a=>Ix 5 a (g b 0) fun a=>Ld 5 a fun a=>Cl vW [a] fun a=>.op (.alloc kN) fun c=>.op (.st 5 c a) fun _=>Lg 4 d fun a=>Ld 5 c fun c=>.op (.aW 5 1 kN [(0,5,c)]) fun c=>.op (.app 5 72 a c) fun a=>Sg 4 d a fun _=>Bn .add (g b 0) (.int .i64 1) fun a=>.leaf 0 [a]) (.leaf 2 [g b 0])) fun a c=>ak a 1 (.leaf 1 c) (ak a 2 (Ld 5 d fun a=>.op (.st 5 b a) fun _=>.fin [.cn 5 b]) .bad)
theorem ahe (x0:AV):CC Tryz.prog vW [x0] (QO x0):=cc Tryz.func169 [1,2,3,4] (fun _=>[])
def OV (x0:AV):Prog:=.op (.box x0) fun a=>.op (.alloc wR) fun b=>.op (.fad 7 a) fun c=>Ld 5 c fun c=>Cl vP [c] fun c=>.op (.fad 7 a) fun d=>.op (.st 5 d c) fun _=>Ld 12 a fun a=>.op (.st 12 b a) fun _=>.fin [.cn 12 b]
theorem aem (x0:AV):CC Tryz.prog I4 [x0] (OV x0):=cc Tryz.func119
def PK (x0:AV):Prog:=.op (.box x0) fun a=>.op (.alloc wR) fun b=>Ld 12 a fun c=>.op (.alloc wR) fun d=>.op (.st 12 d c) fun _=>.op (.fad 7 a) fun a=>Ld 5 a fun a=>Cl vW [a] fun a=>.op (.alloc kN) fun c=>.op (.st 5 c a) fun _=>Ld 5 c fun a=>.op (.fad 7 d) fun c=>.op (.st 5 c a) fun _=>Ld 12 d fun a=>.op (.st 12 b a) fun _=>.fin [.cn 12 b]
theorem afD (x0:AV):CC Tryz.prog Ji [x0] (PK x0):=cc Tryz.func91
end
theorem ae8 (x:Pol):Sz.sz x≤67108864→dJ Pol Tryz.prog vP x:=by
 refine lQ (p:=fun x=>Sz.sz x≤67108864→dJ Pol Tryz.prog vP x) ?_ x
 intro x ih hs cs F h r
 rw[Pol.qd] at hs
 rw[Pol.dB] at r
 obtain⟨v0,rfl,r0⟩:=r
 have hsm:=r0.small
 refine agn _ ?_
 unfold Qn
 (repeat' first|refine vs ?_|fail)
 refine aT x.l.length (fun i vs h1=>∃ u G,vs=[.int .i64 (i:Int)]∧i≤x.l.length∧Bk h1 (h.n+1+1) [.int .i64 x.kind,.int .i64 x.n,.str x.key,.str x.text,u] 0∧Bk h1 (h.n+1) [AV.int .i64 0,AV.int .i64 0,AV.str ⟨#[]⟩,AV.str ⟨#[]⟩,AV.au] 0∧Ext h h1∧h.n+1+1+1≤h1.n∧aj h1 u (x.l.take i) G∧Own (h.n+1+1+1) h1 G) ?_ ?_
 ·exact⟨.au,[],rfl,Nat.zero_le _,aX,aX,aA,by simp only[aD,aN];omega,aj.au,Own.nil⟩
 rintro i vs h1 _ ⟨u,G,rfl,hi,b2,b1,e1,m1,ru,ou⟩
 simp only[g0,g1]
 refine br (fun hlt=>?_) (fun hge=>?_)
 ·obtain⟨y,hy,-,htk⟩:=aQ (show i < x.l.length by omega)
  have hm:=bf (List.mem_of_getElem? hy)
  have c:=ih y (List.mem_of_getElem? hy) (by omega)
  refine vs ?_
  refine bX r0 hy rfl ?_
  rintro b o cy Fi a ry _
  rw[Pol.dB] at ry
  obtain⟨vy,rfl,ry⟩:=ry
  (repeat' first|refine vs ?_|fail)
  refine aG (c _ _ _ (Pol.dB.2 ⟨_,rfl,ah⟩)) ?_
  rintro _ h2 ⟨e2,_,G2,rfl,r2,o2⟩
  rw[Pol.dB] at r2
  obtain⟨w2,rfl,q2⟩:=r2
  have n2:=e2.1
  (try simp only[aD,aN] at n2)
  (repeat' first|refine vs ?_|fail)
  have hlen:(x.l.take i).length=i:=by rw[List.length_take];omega
  refine app1 (n:=h.n+1+1+1) (xs:=x.l.take i) (Fx:=G) (a:=y) ah (Pol.dB.2 ⟨_,rfl,q2⟩) (gH (aZ) o2 (by simp only[aD];omega) jy) aL rfl ?_ ?_ ?_
  ·rw[hlen];omega
  ·rw[hlen];omega
  intro u' h' F' ek kp r' o'
  have n3:=kp.1
  (try simp only[aD,aN] at n3)
  (repeat' first|refine vs ?_|fail)
  exact⟨by omega,u',F',rfl,by omega,aX,aX,(ek h aA (by omega)).upd (by(try simp only[aD,aN]);omega) _,by simp only[aN];omega,by rw[htk];exact ah,aZ⟩
 ·have hlen:i=x.l.length:=by omega
  subst hlen
  rw[List.take_length] at ru
  (repeat' first|refine vs ?_|fail)
  exact⟨rfl,_,rfl,aA,_,_,rfl,Pol.dB.2 ⟨_,rfl,ah⟩,(aZ:Own (h.n+1+1+1) _ _).mono (by omega) fun _ _=>rfl⟩
theorem agB (x:Pol):Sz.sz x≤67108864→dJ Pol Tryz.prog vW x:=by
 refine lQ (p:=fun x=>Sz.sz x≤67108864→dJ Pol Tryz.prog vW x) ?_ x
 intro x ih hs cs F h r
 rw[Pol.qd] at hs
 rw[Pol.dB] at r
 obtain⟨v0,rfl,r0⟩:=r
 have hsm:=r0.small
 refine ahe _ ?_
 unfold QO
 (repeat' first|refine vs ?_|fail)
 refine aT x.l.length (fun i vs h1=>∃ u G,vs=[.int .i64 (i:Int)]∧i≤x.l.length∧Bk h1 h.n (x.cs v0) 0∧Bk h1 (h.n+1+1) [.int .i64 x.kind,.int .i64 x.n,.str x.key,.str x.text,u] 0∧Bk h1 (h.n+1) [AV.int .i64 0,AV.int .i64 0,AV.str ⟨#[]⟩,AV.str ⟨#[]⟩,AV.au] 0∧Ext h h1∧h.n+1+1+1≤h1.n∧aj h1 u (x.l.take i) G∧Own (h.n+1+1+1) h1 G) ?_ ?_
 ·refine⟨_,[h.n+1+1+1],rfl,Nat.zero_le _,aX,aX,aX,aA,by simp only[aD,aN];omega,?_,?_⟩
  ·exact(jc (α:=Pol) (w:=5) rfl).1
  ·exact(jc (α:=Pol) (w:=5) rfl).2 _ (by simp only[aD];omega)
 rintro i vs h1 _ ⟨u,G,rfl,hi,b0,b2,b1,e1,m1,ru,ou⟩
 simp only[g0,g1]
 refine vs ?_
 refine br (fun hlt=>?_) (fun hge=>?_)
 ·obtain⟨y,hy,-,htk⟩:=aQ (show i < x.l.length by omega)
  have hm:=bf (List.mem_of_getElem? hy)
  have c:=ih y (List.mem_of_getElem? hy) (by omega)
  refine vs ?_
  refine bX r0 hy rfl ?_
  rintro b o cy Fi a ry _
  rw[Pol.dB] at ry
  obtain⟨vy,rfl,ry⟩:=ry
  (repeat' first|refine vs ?_|fail)
  refine aG (c _ _ _ (Pol.dB.2 ⟨_,rfl,ah⟩)) ?_
  rintro _ h2 ⟨e2,_,G2,rfl,r2,o2⟩
  rw[Pol.dB] at r2
  obtain⟨w2,rfl,q2⟩:=r2
  have n2:=e2.1
  (try simp only[aD,aN] at n2)
  (repeat' first|refine vs ?_|fail)
  have hlen:(x.l.take i).length=i:=by rw[List.length_take];omega
  refine app1 (n:=h.n+1+1+1) (xs:=x.l.take i) (Fx:=G) (a:=y) ah (Pol.dB.2 ⟨_,rfl,ah⟩) (gH (aZ) (aZ:Own h1.n _ G2) (by omega) jy) aL rfl ?_ ?_ ?_
  ·rw[hlen];omega
  ·rw[hlen];omega
  intro u' h' F' ek kp r' o'
  have n3:=kp.1
  (try simp only[aD,aN] at n3)
  (repeat' first|refine vs ?_|fail)
  exact⟨by omega,u',F',rfl,by omega,aX,aX,aX,(ek h aA (by omega)).upd (by(try simp only[aD,aN]);omega) _,by simp only[aN];omega,by rw[htk];exact ah,aZ⟩
 ·have hlen:i=x.l.length:=by omega
  subst hlen
  rw[List.take_length] at ru
  (repeat' first|refine vs ?_|fail)
  exact⟨rfl,_,rfl,aA,_,_,rfl,Pol.dB.2 ⟨_,rfl,ah⟩,(aZ:Own (h.n+1+1+1) _ _).mono (by omega) fun _ _=>rfl⟩
theorem ady (x:gD) (hs:Sz.sz x≤67108864):dJ gD Tryz.prog I4 x:=by
 rintro cs F h ⟨v0,rfl,r0⟩
 have hx2:Sz.sz x=Sz.sz x.rule:=rfl
 refine aem _ ?_
 unfold OV
 (repeat' first|refine vs ?_|((with_reducible refine ay vP ?_);(refine aG (ae8 x.rule (by omega) _ _ _ (Pol.dB.2 ⟨_,rfl,ah⟩)) ?_;rintro _ h2 ⟨e2,_,G2,rfl,r2,o2⟩;rw[Pol.dB] at r2;obtain⟨w2,rfl,q2⟩:=r2;have n2:=e2.1;(try simp only[aD,aN] at n2)))|fail)
 exact⟨rfl,_,rfl,aA,_,_,rfl,⟨_,rfl,ah⟩,aZ⟩
theorem aeF (x:gD) (hs:Sz.sz x≤67108864):dJ gD Tryz.prog Ji x:=by
 rintro cs F h ⟨v0,rfl,r0⟩
 have hx2:Sz.sz x=Sz.sz x.rule:=rfl
 refine afD _ ?_
 unfold PK
 (repeat' first|refine vs ?_|((with_reducible refine ay vW ?_);(refine aG (agB x.rule (by omega) _ _ _ (Pol.dB.2 ⟨_,rfl,ah⟩)) ?_;rintro _ h2 ⟨e2,_,G2,rfl,r2,o2⟩;rw[Pol.dB] at r2;obtain⟨w2,rfl,q2⟩:=r2;have n2:=e2.1;(try simp only[aD,aN] at n2)))|fail)
 exact⟨rfl,_,rfl,aA,_,_,rfl,⟨_,rfl,ah⟩,aZ⟩
end Go.Proofs.YtekfdoknfcedpaaGreat
end
section
set_option linter.unusedSimpArgs false
set_option linter.unusedVariables false
set_option maxHeartbeats 2000000
namespace Go.Proofs.YtekfdoknfcedpaaGreat
open Go Go.Ab
section
def QM (x0:AV):Prog:=.op (.box x0) fun a=>.op (.alloc [.int .i64 0,.au,.au,.au]) fun b=>.op (.fad 0 a) fun c=>.op (.ld1 c) fun d=>Lg 1 a fun e=>.op (.fad 2 a) fun f=>.op (.ld1 f) fun i=>.op (.aW 3 0 [] []) fun j=>.op (.fad 3 a) fun a=>.op (.ld1 a) fun k=>Cl CU [e] fun e=>.chk (.ld1 c) d (.chk (.ld1 f) i (.chk (.aW 3 0 [] []) j (.chk (.ld1 a) k (Cl CU [i] fun f=>.chk (.ld1 c) d (.chk (.aW 3 0 [] []) j (.chk (.ld1 a) k (.op (.app 3 24 j k) fun a=>.chk (.ld1 c) d (.op (.build [.int .i64 0,.au,.au,.au] [(0,1,d),(1,1,e),(2,1,f),(3,1,a)]) fun a=>.op (.st 4 b a) fun _=>.fin [.cn 4 b]))))))))
theorem ahc (x0:AV):CC Tryz.prog vV [x0] (QM x0):=cc Tryz.func93 [] (fun r=>if r=1 then[(0,[]),(1,[]),(2,[]),(3,[]),(5,[]),(6,[]),(8,[]),(9,[]),(10,[]),(4,[1,6,8,10]),(7,[1,8,10]),(11,[1]),(12,[]),(13,[])] else[])
end
theorem DK (x:bD) (hs:Sz.sz x≤67108864):dJ bD Tryz.prog vV x:=by
 rintro cs F h ⟨v0,v1,v2,F0,F1,F2,rfl,rfl,r0,r1,r2⟩
 have hsz:Sz.sz x=(x.near.length+szs x.near)+(x.far.length+szs x.far)+(x.rest.length+szs x.rest):=rfl
 refine ahc _ ?_
 unfold QM
 (repeat' first|refine vs ?_|fail)
 obtain⟨re,oe⟩:=jc (h:=(h.push ⟨x.cs v0 v1 v2,0,0⟩).push ⟨[AV.int .i64 0,AV.au,AV.au,AV.au],0,0⟩) (α:=Ab.Timer) (w:=3) rfl
 have oe:=oe (h.n+1+1) (by simp)
 obtain⟨H,hH⟩:∃ H,H=(((h.push ⟨x.cs v0 v1 v2,0,0⟩).push ⟨[AV.int .i64 0,AV.au,AV.au,AV.au],0,0⟩).push ⟨[],3,0⟩):=⟨_,rfl⟩
 have nH:H.n=h.n+1+1+1:=by rw[hH];rfl
 have eH:Ext h H:=by rw[hH];exact((Ext.refl h).push _).push _ |>.push _
 have bx:Bk H h.n (x.cs v0 v1 v2) 0:=by rw[hH];exact aX
 have bo:Bk H (h.n+1) [AV.int .i64 0,AV.au,AV.au,AV.au] 0:=by rw[hH];exact aX
 have be:Bk H (h.n+1+1) [] 3:=by rw[hH];exact fE
 rw[←hH] at re oe
 have hH':=hH.symm
 simp only[aD] at hH' re oe
 clear hH
 try rw[hH']
 clear hH'
 have r0:=r0.ext eH
 have r1:=r1.ext eH
 have r2:=r2.ext eH
 refine aG (O8 x.near (by omega) _ _ _ r0) ?_
 rintro w1 h1 ⟨e1,G1,q1,o1⟩
 have n1:=e1.1
 have bx1:=eZ e1 bx
 have be1:=eZ e1 be
 have r2:=r2.ext e1
 have r1:=r1.ext e1
 (repeat' first|refine vs ?_|((with_reducible refine VY ?_);refine K5 (by assumption) (by rfl) (by decide) (by rfl) ?_)|fail)
 refine aG (O8 x.far (by omega) _ _ _ r1) ?_
 rintro w2 h2 ⟨e2,G2,q2,o2⟩
 have n2:=e2.1
 have bx2:=eZ e2 bx1
 have be2:=eZ e2 be1
 have r2:=r2.ext e2
 have re:=(re.ext e1).ext e2
 have oe:=(iB e2 (iB e1 ⟨oe,(fun c hc=>by rw[List.mem_singleton.1 hc,nH];omega:∀ c∈[h.n+1+1],c < H.n)⟩)).1
 (repeat' first|refine vs ?_|((with_reducible refine VY ?_);refine K5 (by assumption) (by rfl) (by decide) (by rfl) ?_)|fail)
 refine amQ (n:=h.n+1+1) (xs:=([]:List Ab.Timer)) (ys:=x.rest) re r2 oe (by omega) rfl (by simp;omega) (by simp;omega) ?_
 rintro w3 h3 G3 k3 q3 o3 m3
 have n3:=k3.1
 have bx3:=bJ k3 bx2 (by simp only[List.mem_singleton];omega)
 have bo3:=bJ k3 (eZ e2 (eZ e1 bo)) (by simp only[List.mem_singleton];omega)
 have d1:∀ c∈G1,c ∉ [h.n+1+1]:=fun c hc hX=>by have:=(o1.2 c hc).1;have:=List.mem_singleton.1 hX;omega
 have d2:∀ c∈G2,c ∉ [h.n+1+1]:=fun c hc hX=>by have:=(o2.2 c hc).1;have:=List.mem_singleton.1 hX;omega
 have l1:=q1.lt
 have l2:=q2.lt
 have o1':=bq k3 (iB e2 ⟨o1,l1⟩) d1
 have o2':=bq k3 ⟨o2,l2⟩ d2
 have q1':=aC k3 (q1.ext e2) d1
 have q2':=aC k3 q2 d2
 have eT:Ext h h3:=Kp.ext (eH.trans (e1.trans e2)) k3 fun c hc=>by rw[List.mem_singleton.1 hc];omega
 have q3':aj h3 w3 x.rest G3:=q3
 (repeat' first|refine vs ?_|fail)
 refine⟨rfl,_,rfl,eT.upd (by simp only[aD];omega) _,_,G1++(G2++G3),rfl,⟨_,_,_,_,_,_,rfl,rfl,?_,?_,?_⟩,?_⟩
 ·refine fQ q1' fun hm=>?_
  have:=(o1.2 _ hm).1;simp only[aD] at this;omega
 ·refine fQ q2' fun hm=>?_
  have:=(o2.2 _ hm).1;simp only[aD] at this;omega
 ·refine fQ q3' fun hm=>?_
  rcases m3 _ hm with q|q
  ·have:=List.mem_singleton.1 q;simp only[aD] at this;omega
  ·simp only[aD] at q;omega
 ·have oo:dh (h.n+1+1) h3 (G1++(G2++G3)):=dA ⟨o1'.1.mono (by omega) fun _ _=>rfl,o1'.2⟩ (dA ⟨o2'.1.mono (by omega) fun _ _=>rfl,o2'.2⟩ ⟨o3,q3.lt⟩ fun c hc hm=>by
   rcases m3 c hm with q|q
   ·exact d2 c hc q
   ·have:=l2 c hc;omega) fun c hc hm=>by
   rcases List.mem_append.1 hm with hm|hm
   ·have:=l1 c hc;have:=(o2.2 c hm).1;omega
   ·rcases m3 c hm with q|q
    ·exact d1 c hc q
    ·have:=l1 c hc;omega
  refine(eY oo fun hm=>?_).1.mono (by omega) fun _ _=>rfl
  have:=(oo.1.2 _ hm).1;simp only[aD] at this;omega
end Go.Proofs.YtekfdoknfcedpaaGreat
end
section
set_option linter.unusedSimpArgs false
set_option linter.unusedVariables false
set_option maxHeartbeats 2000000
namespace Go.Proofs.YtekfdoknfcedpaaGreat
open Go Go.Ab
section
def Oa (x0 x1:AV):Prog:=.op (.alloc [.int .i64 0,.int .i64 0,.bool false]) fun a=>Cl yH [x0,x1] fun b=>Bn .lss b (.int .i64 0) fun c=>.ite c (.op (.build [.int .i64 0,.int .i64 0,.bool false] []) fun b=>.op (.st 3 a b) fun _=>.fin [.cn 3 a,.val (.bool false)]) (Ix 3 x0 b fun b=>Ld 3 b fun b=>.op (.st 3 a b) fun _=>.fin [.cn 3 a,.val (.bool true)])
theorem acY (x0 x1:AV):CC Tryz.prog nu [x0,x1] (Oa x0 x1):=cc Tryz.func153
def Nw (x0 x1:AV):Prog:=.op (.alloc [.int .i64 0,.int .i64 0,.bool false]) fun a=>.loop [.int .i64 0] (fun b=>Ln 0 x0 fun c=>Bn .lss (g b 0) c fun c=>.ite c (Ix 3 x0 (g b 0) fun c=>Lg 0 c fun c=>Bn .eql c x1 fun c=>.ite c (Ix 3 x0 (g b 0) fun b=>Ld 3 b fun b=>.op (.st 3 a b) fun _=>.fin [.cn 3 a,.val (.bool true)]) (Bn .add (g b 0) (.int .i64 1) fun a=>.leaf 0 [a])) (.leaf 2 [g b 0])) fun b c=>ak b 1 (.leaf 1 c) (ak b 2 (.op (.build [.int .i64 0,.int .i64 0,.bool false] []) fun b=>.op (.st 3 a b) fun _=>.fin [.cn 3 a,.val (.bool false)]) .bad)
theorem ab9 (x0 x1:AV):CC Tryz.prog oH [x0,x1] (Nw x0 x1):=cc Tryz.func231 [0,1,4,6] (fun _=>[])
def Nf (x0 x1:AV):Prog:=.op (.box x0) fun a=>Lg 0 a fun a=>Lg 0 x1 fun b=>Bn .eql a b fun a=>.fin [.val a]
theorem aa8 (x0 x1:AV):CC Tryz.prog H7 [x0,x1] (Nf x0 x1):=cc Tryz.func294
def Zn (x0 x1:AV):Prog:=Cl yw [x0,x1] fun a=>.op (.bin 0 .eql a (.int .i64 (-1))) fun b=>.ite b (.fin [.val x0]) (Bn .add a (.int .i64 1) fun b=>.loop [a,b] (fun a=>Ln 0 x0 fun b=>Bn .lss (g a 1) b fun b=>.ite b (Ix 3 x0 (g a 1) fun b=>Ld 3 b fun b=>.op (.alloc [.int .i64 0,.int .i64 0,.bool false]) fun c=>.op (.st 3 c b) fun _=>Ld 3 c fun b=>.op (.iV x1 [b]) fun b=>.op (.una .not b) fun b=>.scope (.ite b (Ld 3 c fun b=>Ix 3 x0 (g a 0) fun c=>.op (.st 3 c b) fun _=>Bn .add (g a 0) (.int .i64 1) fun a=>.leaf 0 [a]) (.leaf 0 [g a 0])) (fun b=>Bn .add (g a 1) (.int .i64 1) fun a=>.leaf 0 [g b 0,a]) fun a b=>ak a 1 (.leaf 1 b) .bad) (.leaf 2 [g a 0,g a 1])) fun a b=>ak a 1 (.leaf 1 b) (ak a 2 (.op (.slc 3 x0 (some (g b 0)) none none) fun a=>.op (.clr 3 [.int .i64 0,.int .i64 0,.bool false] a) fun _=>.op (.slc 3 x0 none (some (g b 0)) none) fun a=>.fin [.val a]) .bad))
theorem Zo (x0 x1:AV):CC Tryz.prog He [x0,x1] (Zn x0 x1):=cc Tryz.func293 [0,1,5,6] (fun _=>[])
def OZ (x0 x1 x2:AV):Prog:=.op (.box x1) fun a=>.op (.app 3 24 .au x0) fun b=>Bn .lss x2 (.int .i64 1) fun c=>.ite c (.fin [.val b,.val (.int .i64 0)]) (.op (.mP H7 [a]) fun c=>Cl He [b,c] fun b=>Ld 3 a fun a=>.op (.aW 3 1 [.int .i64 0,.int .i64 0,.bool false] [(0,3,a)]) fun a=>.op (.app 3 24 b a) fun a=>.loop [a,.int .i64 0] (fun a=>Ln 0 (g a 0) fun b=>Bn .gtr b x2 fun b=>.ite b (Ix 3 (g a 0) (.int .i64 0) fun b=>Lg 0 b fun b=>.op (.slc 3 (g a 0) (some (.int .i64 1)) none none) fun a=>.leaf 0 [a,b]) (.leaf 2 [g a 0,g a 1])) fun a b=>ak a 1 (.leaf 1 b) (ak a 2 (.fin [.val (g b 0),.val (g b 1)]) .bad))
theorem aer (x0 x1 x2:AV):CC Tryz.prog I5 [x0,x1,x2] (OZ x0 x1 x2):=cc Tryz.func223 [2,8,9] (fun _=>[])
def Ou (x0 x1 x2:AV):Prog:=.op (.box x1) fun a=>Bn .lss x2 (.int .i64 1) fun b=>.ite b (.op (.aW 3 0 [] []) fun a=>.op (.app 3 24 a x0) fun a=>.fin [.val a,.val (.int .i64 0)]) (.op (.aW 3 0 [] []) fun b=>.loop [b,.int .i64 0] (fun b=>Ln 0 x0 fun c=>Bn .lss (g b 1) c fun c=>.ite c (Ix 3 x0 (g b 1) fun c=>Lg 0 c fun c=>Lg 0 a fun a=>Bn .neq c a fun a=>.scope (.ite a (Ix 3 x0 (g b 1) fun a=>Ld 3 a fun a=>.op (.aW 3 1 [.int .i64 0,.int .i64 0,.bool false] [(0,3,a)]) fun a=>.op (.app 3 24 (g b 0) a) fun a=>.leaf 0 [a]) (.leaf 0 [g b 0])) (fun a=>Bn .add (g b 1) (.int .i64 1) fun b=>.leaf 0 [g a 0,b]) fun a b=>ak a 1 (.leaf 1 b) .bad) (.leaf 2 [g b 0,g b 1])) fun b c=>ak b 1 (.leaf 1 c) (ak b 2 (Ld 3 a fun a=>.op (.aW 3 1 [.int .i64 0,.int .i64 0,.bool false] [(0,3,a)]) fun a=>.op (.app 3 24 (g c 0) a) fun a=>.loop [a,.int .i64 0] (fun a=>Ln 0 (g a 0) fun b=>Bn .gtr b x2 fun b=>.ite b (Ix 3 (g a 0) (.int .i64 0) fun b=>Lg 0 b fun b=>.op (.aW 3 0 [] []) fun c=>.op (.slc 3 (g a 0) (some (.int .i64 1)) none none) fun a=>.op (.app 3 24 c a) fun a=>.leaf 0 [a,b]) (.leaf 4 [g a 0,g a 1])) fun a b=>ak a 1 (.leaf 1 b) (ak a 4 (.fin [.val (g b 0),.val (g b 1)]) .bad)) .bad))
theorem adS (x0 x1 x2:AV):CC Tryz.prog IL [x0,x1,x2] (Ou x0 x1 x2):=cc Tryz.func264 [0,2,4,8,9,10] (fun r=>if r=7 then[(0,[]),(1,[]),(2,[]),(3,[]),(4,[]),(5,[]),(6,[]),(7,[])] else[])
end
theorem akn {α:Type} (p:α→Bool) (xs:List α):(idx p xs= -1∧xs.find? p=none)∨∃ (i:Nat) (x:α),idx p xs=i∧xs[i]? =some x∧xs.find? p=some x:=by
 unfold idx
 by_cases hi:xs.findIdx p < xs.length
 ·right
  refine⟨xs.findIdx p,xs[xs.findIdx p],by rw[if_pos hi],List.getElem?_eq_getElem hi,?_⟩
  rw[List.find?_eq_some_iff_getElem]
  exact⟨List.findIdx_getElem,xs.findIdx p,hi,rfl,fun j hj=>by simpa using List.not_of_lt_findIdx hj⟩
 ·left
  refine⟨by rw[if_neg hi],?_⟩
  rw[List.find?_eq_none]
  have:xs.findIdx p=xs.length:=by have:=List.findIdx_le_length (xs:=xs) (p:=p);omega
  rw[List.findIdx_eq_length] at this
  intro x hx;simp[this x hx]
def vOf (xs:List bg) (k:Int):bg × Bool:=match xs.find? (isT k) with
 |some v=>(v,true)
 |none=>(⟨0,0,false⟩,false)
theorem abD {h:AH} {xs:List bg} {x0:AV} {F:List Nat} {k:Int} (r:aj h x0 xs F):aO Tryz.prog nu [x0,.int .i64 k] h (.tup [.agg (vOf xs k).1.cs,.bool (vOf xs k).2]):=by
 refine reader (acY _ _) (by simp only[old,olds,bg.cs,and_self]) ?_
 unfold Oa
 refine je (aK (Nl (r.ext ((Ext.refl _).push _))) ?_)
 rcases akn (isT k) xs with⟨h1,h2⟩|⟨i,x,h1,h2,h3⟩
 ·rw[h1]
  simp only[vOf,h2]
  (repeat' first|refine vs ?_|(refine br ?_ ?_<;>first|exact bo|intro _)|fail)
  all_goals(refine⟨rfl,?_,(Ext.refl _).push _⟩;rfl)
 ·rw[h1]
  simp only[vOf,h3]
  (repeat' first|refine vs ?_|(refine br ?_ ?_<;>first|exact bo|intro _)|((with_reducible refine aP ?_);((refine ix ?_);rintro _ _ _ _ _ ⟨rfl,rfl⟩ _))|fail)
  all_goals(refine⟨rfl,?_,(Ext.refl _).push _⟩;rfl)
theorem abd {h:AH} {xs:List bg} {x0:AV} {F:List Nat} {k:Int} (r:aj h x0 xs F):aO Tryz.prog oH [x0,.int .i64 k] h (.tup [.agg (vOf xs k).1.cs,.bool (vOf xs k).2]):=by
 refine reader (ab9 _ _) (by simp only[old,olds,bg.cs,and_self]) ?_
 unfold Nw
 have hsm:=r.small
 refine je (aT xs.length (fun i vs h1=>vs=[.int .i64 (i:Int)]∧i≤xs.length∧h1=h.push ⟨[.int .i64 0,.int .i64 0,.bool false],0,0⟩∧xs.find? (isT k)=(xs.drop i).find? (isT k)) ⟨rfl,by omega,rfl,by simp⟩ ?_)
 rintro i vs h1 _ ⟨rfl,hi,rfl,hf⟩
 simp only[g0]
 refine bC r (fM (fun hlt=>?_) (fun hge=>?_))
 ·obtain⟨x,hx,hd,_⟩:=aQ (show i < xs.length by omega)
  rw[hd,List.find?_cons] at hf
  (repeat' first|refine vs ?_|(refine br ?_ ?_<;>first|exact bx|intro _)|((with_reducible refine aP ?_);((refine ix ?_);rintro _ _ _ _ _ ⟨rfl,rfl⟩ _))|fail)
  ·refine⟨rfl,?_,(Ext.refl _).push _⟩
   simp_all [vOf,isT,splice,bg.cs]
  ·refine⟨by omega,rfl,by omega,rfl,?_⟩
   simp_all [isT]
 ·have:i=xs.length:=by omega
  subst this
  simp at hf
  (repeat' first|refine vs ?_|fail)
  refine⟨rfl,?_,(Ext.refl _).push _⟩
  have:xs.find? (isT k)=none:=by simpa using hf
  simp[vOf,this,splice,bg.cs]
theorem Kl {α:Type} [Flat α] {h:AH} {v:AV} {xs:List α} {F:List Nat} (r:aj h v xs F):F.tail=[]:=by
 rcases r.flat with⟨_,_,rfl⟩|⟨b,_,_,_,rfl,_⟩<;>rfl
def fG (xs:List bg) (v:bg):List bg:=(xs.filter fun x=>!isT v.trace x)++[v]
def gone (l:List bg) (d:Nat):Int:=match d with
 |0=>0
 |d+1=>match l[d]? with
  |some v=>v.trace
  |none=>0
def rem (xs:List bg) (v:bg) (most:Int):List bg × Int:=
 if most < 1 then(xs,0) else((fG xs v).drop ((fG xs v).length - most.toNat),gone (fG xs v) ((fG xs v).length - most.toNat))
theorem aaE {h:AH} {b:Nat} {v:bg} (a:At h b 0 v.cs):Looks bg Tryz.prog h H7 [.ptr b 0] (isT v.trace):=by
 rintro x cs F ⟨rfl,rfl⟩
 refine reader (aa8 _ _) (by simp only[old]) ?_
 unfold Nf
 refine kP rfl ?_
 (repeat' first|refine vs ?_|(refine br ?_ ?_<;>first|exact bx|intro _)|fail)
 all_goals(refine⟨rfl,?_,aA⟩;simp[isT, *])
theorem Zl {h:AH} {n:Nat} {xs:List bg} {x0:AV} {F:List Nat} {f:FuncId} {caps:List AV} {p:bg→Bool} (r:aj h x0 xs F) (o:Own n h F) (hf:∀ h',Kp h h' F→Looks bg Tryz.prog h' f caps p):
  bE Tryz.prog He [x0,.fn f caps] h fun u h'=>Kp h h' F∧aj h' u (xs.filter fun x=>!p x) F∧Own n h' F:=
 Zo _ _ (TQ (w:=3) rfl rfl r o (MK r (hf h (Kp.refl _ _))) hf)
theorem TL {l:List bg} {d:Nat} {x:bg} (hx:l[d]? =some x):gone l (d+1)=x.trace:=by simp[gone,hx]
theorem adA {h:AH} {xs:List bg} {x0:AV} {F:List Nat} {v:bg} {m:Int} (r:aj h x0 xs F) (hsz:xs.length≤1048576):
  bE Tryz.prog I5 [x0,.agg v.cs,.int .i64 m] h fun u h'=>Ext h h'∧∃ u0 F',u= .tup [u0,.int .i64 (rem xs v m).2]∧aj h' u0 (rem xs v m).1 F'∧Own h.n h' F':=by
 refine aer _ _ _ ?_
 unfold OZ
 refine kP rfl ?_
 refine mI (n:=h.n+1) aj.au (r.ext ((Ext.refl _).push _)) (by rw[Kl r];exact Own.nil) (by simp) rfl (by simp;omega) (by simp;omega) ?_
 intro v1 h1 F1 k1 r1 o1
 have e1:Ext h h1:=k1.ext ((Ext.refl h).push _) (by simp)
 have e1':Ext (h.push ⟨v.cs,0,0⟩) h1:=k1.ext (Ext.refl _) (by simp)
 have a1:At h1 h.n 0 v.cs:=jC.ext e1'
 rw[List.nil_append] at r1
 have hn1:h.n+1≤h1.n:=e1'.1
 have up:∀ {h':AH},Kp h1 h' F1→Ext (h.push ⟨v.cs,0,0⟩) h':=fun kp=>kp.ext e1' fun b hb=>(o1.2 b hb).1
 (repeat' first|refine vs ?_|(refine br ?_ ?_<;>first|exact bx|intro _)|fail)
 ·rename_i hm
  refine⟨rfl,_,rfl,e1,v1,F1,?_,?_,o1.mono (by omega) fun _ _=>rfl⟩
  ·simp[rem,hm]
  ·simpa[rem,hm] using r1
 ·rename_i hm
  refine aG (Zl (p:=isT v.trace) r1 o1 fun h' kp=>aaE (jC.ext (up kp))) ?_
  rintro v2 h2 ⟨k2,r2,o2⟩
  have e2:=up k2
  have a2:At h2 h.n 0 v.cs:=jC.ext e2
  have hfl:(xs.filter fun x=>!isT v.trace x).length≤xs.length:=List.length_filter_le _ _
  clear e1 e1' a1
  (repeat' first|refine vs ?_|fail)
  refine mI (n:=h.n+1) (r2.ext aA) (j3 (n:=1) (xs:=[v]) rfl (by decide) (nG ⟨rfl,rfl⟩)) (by simpa using o2.ext aA r2.lt) (by have:=e2.1;simp at this ⊢;omega) rfl (by simp;omega) (by simp;omega) ?_
  intro v3 h3 F3 k3 r3 o3
  have e3:Ext h h3:=k3.ext (Ext.trans ((Ext.refl h).push _) (e2.push _)) fun b hb=>by have:=(o2.2 b hb).1;omega
  have hL:(fG xs v).length≤1048577:=by simp[fG];omega
  change aj h3 v3 (fG xs v) F3 at r3
  refine zV (fun k vs h4=>∃ d va F4,vs=[va,.int .i64 (gone (fG xs v) d)]∧k=(fG xs v).length - d∧d≤(fG xs v).length - m.toNat∧Ext h h4∧aj h4 va ((fG xs v).drop d) F4∧Own h.n h4 F4) (fG xs v).length ⟨0,v3,F3,rfl,rfl,by omega,e3,r3,o3.mono (by omega) fun _ _=>rfl⟩ ?_
  rintro k vs h4 ⟨d,va,F4,rfl,rfl,hd,e4,r4,o4⟩
  simp only[g0,g1]
  refine bC r4 ?_
  rw[List.length_drop]
  refine Li (fun hgt=>?_) (fun hle=>?_)
  ·obtain⟨x,hx,hdr,_⟩:=aQ (show d < (fG xs v).length by omega)
   rw[hdr] at r4
   have h0:(x::(fG xs v).drop (d+1))[(0:Int).toNat]? =some x:=rfl
   refine dz (zW r4 (by decide) h0 rfl ?_)
   rintro b o cs Fi a5 ⟨rfl,rfl⟩ _
   (repeat' first|refine vs ?_|fail)
   refine Vm rfl r4 o4 fun u r5=>?_
   (repeat' first|refine vs ?_|fail)
   refine⟨_,?_,d+1,u,F4,by rw[TL hx],rfl,by omega,e4,r5,o4⟩
   omega
  ·have hde:d=(fG xs v).length - m.toNat:=by omega
   (repeat' first|refine vs ?_|fail)
   refine⟨rfl,_,rfl,e4,va,F4,?_,?_,o4⟩
   ·rw[hde];simp[rem,hm,g]
   ·rw[hde] at r4;simpa[rem,hm] using r4
theorem ac9 {h:AH} {xs:List bg} {x0:AV} {F:List Nat} {v:bg} {m:Int} (r:aj h x0 xs F) (hsz:xs.length≤1048576):
  bE Tryz.prog IL [x0,.agg v.cs,.int .i64 m] h fun u h'=>Ext h h'∧∃ u0 F',u= .tup [u0,.int .i64 (rem xs v m).2]∧aj h' u0 (rem xs v m).1 F'∧Own h.n h' F':=by
 refine adS _ _ _ ?_
 unfold Ou
 refine kP rfl ?_
 have hf:=Kl r
 refine fM (fun hm=>dz ?_) (fun hm=>cu ?_)
 ·refine wI rfl (by decide) rfl ?_
  obtain⟨re,oe⟩:=jc (h:=h.push ⟨v.cs,0,0⟩) (α:=bg) (w:=3) rfl
  refine mI (n:=h.n+1) re (r.ext aA) (by rw[hf];simpa using oe (h.n+1) (by simp)) (by simp) rfl (by simp;omega) (by simp;omega) ?_
  intro v1 h1 F1 k1 r1 o1
  refine K3 ⟨rfl,_,rfl,k1.ext aA (by simp),v1,F1,?_,?_,o1.mono (by omega) fun _ _=>rfl⟩
  ·simp[rem,hm]
  ·simpa[rem,hm] using r1
 ·refine wI rfl (by decide) rfl ?_
  obtain⟨re,oe⟩:=jc (h:=h.push ⟨v.cs,0,0⟩) (α:=bg) (w:=3) rfl
  refine aT xs.length (fun i vs h1=>∃ va F',vs=[va,.int .i64 (i:Int)]∧i≤xs.length∧Ext (h.push ⟨v.cs,0,0⟩) h1∧aj h1 va ((xs.take i).filter fun x=>!isT v.trace x) F'∧Own (h.n+1) h1 F') ⟨_,_,rfl,by omega,aA,re,oe _ (by simp)⟩ ?_
  rintro i vs h1 _ ⟨va,F',rfl,hi,e,ra,oa⟩
  simp only[g0,g1]
  have a1:At h1 h.n 0 v.cs:=jC.ext e
  have E1:Ext h h1:=Ext.trans ((Ext.refl h).push _) e
  refine bC r (fM (fun hlt=>?_) (fun hge=>?_))
  ·obtain⟨x,hx,_,htk⟩:=aQ (show i < xs.length by omega)
   have hfl:((xs.take i).filter fun x=>!isT v.trace x).length≤(xs.take i).length:=List.length_filter_le _ _
   have htl:(xs.take i).length=i:=by simp;omega
   have hn1:=e.1
   have hE:(xs.take (i+1)).filter (fun x=>!isT v.trace x)=(xs.take i).filter (fun x=>!isT v.trace x)++(if isT v.trace x=true then[] else[x]):=by
    rw[htk,List.filter_append];by_cases hh:isT v.trace x=true<;>simp[hh]
   (repeat' first|refine vs ?_|(refine br ?_ ?_<;>first|exact bx|intro _)|((with_reducible refine aP ?_);((refine ix ?_);rintro _ _ _ _ _ ⟨rfl,rfl⟩ _))|fail)
   ·rename_i hne _ _ _ _
    refine mI (n:=h.n+1) (ra.ext aA) (j3 (n:=1) (xs:=[x]) rfl (by decide) (nG ⟨rfl,rfl⟩)) (by simpa using oa.ext aA ra.lt) (by simp at hn1 ⊢;omega) rfl (by simp;omega) (by simp;omega) ?_
    intro v2 h2 F2 kp rv ov
    (repeat' first|refine vs ?_|fail)
    refine⟨by omega,v2,F2,rfl,by omega,kp.ext (Ext.trans e ((Ext.refl _).push _)) fun b hb=>by have:=(oa.2 b hb).1;simpa using this,?_,ov⟩
    rw[hE]
    have: ¬ isT v.trace x=true:=by simp[isT];assumption
    rw[if_neg this];exact rv
   ·refine⟨by omega,va,F',rfl,by omega,e,?_,oa⟩
    rw[hE]
    have:isT v.trace x=true:=by simp[isT];assumption
    rw[if_pos this,List.append_nil];exact ra
  ·have:i=xs.length:=by omega
   subst this
   rw[List.take_length] at ra
   have hfl:(xs.filter fun x=>!isT v.trace x).length≤xs.length:=List.length_filter_le _ _
   have hn1:=e.1
   (repeat' first|refine vs ?_|((with_reducible refine bF ?_);simp only[g0,g1,g2]))
   refine mI (n:=h.n+1) (ra.ext aA) (j3 (n:=1) (xs:=[v]) rfl (by decide) (nG ⟨rfl,rfl⟩)) (by simpa using oa.ext aA ra.lt) (by simp at hn1 ⊢;omega) rfl (by simp;omega) (by simp;omega) ?_
   intro v3 h3 F3 k3 r3 o3
   have e3:Ext h h3:=k3.ext (Ext.trans E1 ((Ext.refl _).push _)) fun b hb=>by have:=(oa.2 b hb).1;omega
   have hL:(fG xs v).length≤1048577:=by simp[fG];omega
   change aj h3 v3 (fG xs v) F3 at r3
   refine zV (fun k vs h4=>∃ d va F4,vs=[va,.int .i64 (gone (fG xs v) d)]∧k=(fG xs v).length - d∧d≤(fG xs v).length - m.toNat∧Ext h h4∧aj h4 va ((fG xs v).drop d) F4∧Own h.n h4 F4) (fG xs v).length ⟨0,v3,F3,rfl,rfl,by omega,e3,r3,o3.mono (by omega) fun _ _=>rfl⟩ ?_
   rintro k vs h4 ⟨d,va,F4,rfl,rfl,hd,e4,r4,o4⟩
   simp only[g0,g1]
   refine bC r4 ?_
   rw[List.length_drop]
   refine Li (fun hgt=>?_) (fun hle=>?_)
   ·obtain⟨x,hx,hdr,_⟩:=aQ (show d < (fG xs v).length by omega)
    rw[hdr] at r4
    have h0:(x::(fG xs v).drop (d+1))[(0:Int).toNat]? =some x:=rfl
    refine dz (zW r4 (by decide) h0 rfl ?_)
    rintro b o cs Fi a5 ⟨rfl,rfl⟩ _
    clear a1 e3 E1 e
    (repeat' first|refine vs ?_|fail)
    obtain⟨re,oe⟩:=jc (h:=h4) (α:=bg) (w:=3) rfl
    refine Vm rfl (r4.ext aA) (o4.ext aA r4.lt) fun u r5=>?_
    refine mI (n:=h.n) re r5 (by rw[Kl r5];simpa using oe h.n e4.1) (by have:=e4.1;simp;omega) rfl (by simp;omega) (by simp;omega) ?_
    intro v6 h6 F6 k6 r6 o6
    (repeat' first|refine vs ?_|fail)
    refine⟨_,?_,d+1,v6,F6,by rw[TL hx],rfl,by omega,k6.ext (e4.push _) (by have:=e4.1;simp;omega),by simpa using r6,o6⟩
    omega
   ·have hde:d=(fG xs v).length - m.toNat:=by omega
    (repeat' first|refine vs ?_|fail)
    refine⟨rfl,_,rfl,e4,va,F4,?_,?_,o4⟩
    ·rw[hde];simp[rem,hm,g]
    ·rw[hde] at r4;simpa[rem,hm] using r4
section
variable{P:Program} {h:AH} {Q:Nat→List AV→AH→Prop} {k:AV→Prog}
end
end Go.Proofs.YtekfdoknfcedpaaGreat
end
section
set_option linter.unusedSimpArgs false
set_option linter.unusedVariables false
set_option maxHeartbeats 4000000
namespace Go.Proofs.YtekfdoknfcedpaaGreat
open Go Go.Ab
section
end
end Go.Proofs.YtekfdoknfcedpaaGreat
end
