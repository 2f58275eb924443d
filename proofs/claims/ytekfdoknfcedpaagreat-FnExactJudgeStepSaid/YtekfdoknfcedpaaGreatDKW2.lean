import Derived.Test.YtekfdoknfcedpaaGreatDKW1
import Derived.Test.YtekfdoknfcedpaaGreatDK4
import Derived.Test.YtekfdoknfcedpaaGreatDK5
import Derived.Test.YtekfdoknfcedpaaGreatDNm
section
set_option linter.unusedSimpArgs false
set_option linter.unusedVariables false
set_option maxHeartbeats 2000000
namespace Go.Proofs.YtekfdoknfcedpaaGreat
open Go Go.Ab
section
def Q5 (x0:AV):Prog:=.op (.box x0) fun a=>Lg 1 a fun b=>Ln 0 b fun c=>.loop [.aF,.int .i64 0] (fun a=>Bn .lss (g a 1) c fun c=>.ite c (Ix 1 b (g a 1) fun b=>.op (.ld1 b) fun b=>.op (.app 3 24 (g a 0) b) fun b=>Bn .add (g a 1) (.int .i64 1) fun a=>.leaf 0 [b,a]) (.leaf 2 [g a 0,g a 1])) fun b c=>aA b 1 (.leaf 1 c) (aA b 2 (Lg 2 a fun b=>Ln 0 b fun d=>.loop [g c 0,.int .i64 0] (fun a=>Bn .lss (g a 1) d fun c=>.ite c (Ix 1 b (g a 1) fun b=>.op (.ld1 b) fun b=>.op (.app 3 24 (g a 0) b) fun b=>Bn .add (g a 1) (.int .i64 1) fun a=>.leaf 0 [b,a]) (.leaf 4 [g a 0,g a 1])) fun b c=>aA b 1 (.leaf 1 c) (aA b 4 (Lg 3 a fun a=>.op (.app 3 24 (g c 0) a) fun a=>.fin [.val a]) .bad)) .bad)
theorem ah6 (x0:AV):CC Tryz.prog ug [x0] (Q5 x0):=cc Tryz.func198 [1,3,9,10,11,20,21,22] (fun _=>[])
def Qr (x0:AV):Prog:=.op (.box x0) fun a=>.op (.bE 3 0 [] []) fun b=>.loop [b,.int .i64 0] (fun b=>Lg 1 a fun c=>Ln 0 c fun c=>Bn .lss (g b 1) c fun c=>.ite c (Lg 1 a fun a=>Ix 1 a (g b 1) fun a=>.op (.ld1 a) fun a=>.op (.app 3 24 (g b 0) a) fun a=>Bn .add (g b 1) (.int .i64 1) fun b=>.leaf 0 [a,b]) (.leaf 2 [g b 0,g b 1])) fun b c=>aA b 1 (.leaf 1 c) (aA b 2 (.loop [g c 0,.int .i64 0] (fun b=>Lg 2 a fun c=>Ln 0 c fun c=>Bn .lss (g b 1) c fun c=>.ite c (Lg 2 a fun a=>Ix 1 a (g b 1) fun a=>.op (.ld1 a) fun a=>.op (.app 3 24 (g b 0) a) fun a=>Bn .add (g b 1) (.int .i64 1) fun b=>.leaf 0 [a,b]) (.leaf 4 [g b 0,g b 1])) fun b c=>aA b 1 (.leaf 1 c) (aA b 4 (Lg 3 a fun a=>.op (.app 3 24 (g c 0) a) fun a=>.fin [.val a]) .bad)) .bad)
theorem ahx (x0:AV):CC Tryz.prog qH [x0] (Qr x0):=cc Tryz.func103 [1,3,4,5] (fun _=>[])
def Py (x0 x1 x2 x3:AV):Prog:=.op (.box x0) fun a=>Ln 0 x1 fun b=>.loop [.tup [],.int .i64 0] (fun c=>Bn .lss (g c 1) b fun b=>.ite b (Ix 3 x1 (g c 1) fun b=>Ld 3 b fun b=>.op (.alloc [.int .i64 0,.int .i64 0,.int .i64 0]) fun d=>.op (.st 3 d b) fun _=>Lg 0 d fun b=>Bn .lss b (.int .i64 1) fun b=>Gf b false 1 d fun e=>.gop b false (.call bK [e,.int .i64 1,.int .i64 999]) fun e=>.gop b false (.una .not e) fun e=>Pk b (.bool true) e fun b=>Gf b false 2 d fun e=>Gf b false 0 a fun f=>.gop b false (.bin 0 .leq e f) fun e=>Pk b (.bool true) e fun b=>Gf b false 2 d fun e=>.gop b false (.bin 0 .gtr e (.int .i64 2147483647)) fun e=>Pk b (.bool true) e fun b=>.ite b (.fin [.val (.bool false)]) (Lg 2 d fun b=>Bn .quo b (.int .i64 8) fun b=>Lg 0 a fun a=>Bn .quo a (.int .i64 8) fun a=>Bn .sub b a fun a=>Bn .geq a (.int .i64 8) fun b=>Bn .eql x2 (.int .i64 0) fun e=>.scope (.ite e (Bn .eql a (.int .i64 0) fun a=>Gf a true 2 d fun b=>.gop a true (.bin 0 .rem b (.int .i64 8)) fun b=>.gop a true (.mv x3) fun c=>.gop a true (.bin 0 .eql b c) fun b=>Pk a b (.bool false) fun a=>.leaf 0 [a]) (Bn .eql x2 (.int .i64 1) fun c=>.scope (.ite c (Cl bK [a,.int .i64 1,.int .i64 7] fun a=>Gf a true 2 d fun b=>.gop a true (.bin 0 .quo b (.int .i64 8)) fun b=>.gop a true (.bin 0 .rem b (.int .i64 8)) fun b=>.gop a true (.mv x3) fun c=>.gop a true (.bin 0 .eql b c) fun b=>Pk a b (.bool false) fun a=>.leaf 0 [a]) (.leaf 0 [b])) (fun a=>.leaf 0 [g a 0]) fun a b=>aA a 1 (.leaf 1 b) .bad)) (fun a=>.op (.una .not (g a 0)) fun b=>.ite b (.fin [.val (.bool false)]) (Bn .add (g c 1) (.int .i64 1) fun b=>.leaf 0 [g a 0,b])) fun a b=>aA a 1 (.leaf 1 b) .bad)) (.leaf 2 [g c 0,g c 1])) fun a b=>aA a 1 (.leaf 1 b) (aA a 2 (.fin [.val (.bool true)]) .bad)
theorem agl (x0 x1 x2 x3:AV):CC Tryz.prog qE [x0,x1,x2,x3] (Py x0 x1 x2 x3):=cc Tryz.func269 [2,3,4,12,13,14,15] (fun _=>[])
def OB (x0 x1:AV):Prog:=Bn .quo x1 (.int .i64 8) fun a=>Bn .quo x0 (.int .i64 8) fun b=>Bn .eql a b fun a=>.ite a (Bn .rem x1 (.int .i64 8) fun a=>.fin [.val (.int .i64 1),.val a]) (Bn .quo x1 (.int .i64 8) fun a=>Bn .quo x0 (.int .i64 8) fun b=>Bn .sub a b fun a=>Bn .lss a (.int .i64 8) fun a=>.ite a (Bn .quo x1 (.int .i64 8) fun a=>Bn .rem a (.int .i64 8) fun a=>.fin [.val (.int .i64 2),.val a]) (.fin [.val (.int .i64 3),.val (.int .i64 0)]))
theorem afp (x0 x1:AV):CC Tryz.prog Ba [x0,x1] (OB x0 x1):=cc Tryz.func252
def Qj (x0 x1 x2 x3:AV):Prog:=.op (.box x0) fun a=>.loop [.int .i64 0] (fun b=>Ln 0 x1 fun c=>Bn .lss (g b 0) c fun c=>.ite c (Ix 3 x1 (g b 0) fun c=>Ld 3 c fun c=>.op (.alloc [.int .i64 0,.int .i64 0,.int .i64 0]) fun d=>.op (.st 3 d c) fun _=>Lg 0 d fun c=>Bn .lss c (.int .i64 1) fun c=>Gf c false 1 d fun e=>.gop c false (.call bP [e,.int .i64 1,.int .i64 999]) fun e=>.gop c false (.una .not e) fun e=>Pk c (.bool true) e fun c=>Gf c false 2 d fun e=>Gf c false 0 a fun f=>.gop c false (.bin 0 .add f (.int .i64 1)) fun f=>.gop c false (.call bP [e,f,.int .i64 2147483647]) fun e=>.gop c false (.una .not e) fun e=>Pk c (.bool true) e fun c=>.ite c (.fin [.val (.bool false)]) (Lg 0 a fun a=>Lg 2 d fun c=>Cl Ba [a,c] fun a=>.op (.ext a 0) fun c=>.op (.ext a 1) fun a=>Bn .neq c x2 fun c=>.gop c false (.mv a) fun a=>.gop c false (.mv x3) fun d=>.gop c false (.bin 0 .neq a d) fun a=>Pk c (.bool true) a fun a=>.ite a (.fin [.val (.bool false)]) (Bn .add (g b 0) (.int .i64 1) fun a=>.leaf 0 [a]))) (.leaf 2 [g b 0])) fun a b=>aA a 1 (.leaf 1 b) (aA a 2 (.fin [.val (.bool true)]) .bad)
theorem ahn (x0 x1 x2 x3:AV):CC Tryz.prog qF [x0,x1,x2,x3] (Qj x0 x1 x2 x3):=cc Tryz.func177 [1,2,3,4,9] (fun _=>[])
def M4 (x0 x1:AV):Prog:=.op (.box x0) fun a=>Lg 0 a fun a=>.op (.ld1 x1) fun b=>Bn .eql a b fun a=>.fin [.val a]
theorem acI (x0 x1:AV):CC Tryz.prog Ib [x0,x1] (M4 x0 x1):=cc Tryz.func305
def Zw (x0 x1:AV):Prog:=Ln 0 x0 fun a=>.loop [.int .i64 0] (fun b=>Bn .lss (g b 0) a fun a=>.ite a (Ix 3 x0 (g b 0) fun a=>Ld 3 a fun a=>.op (.fE x1 [a]) fun a=>.ite a (.fin [.val (g b 0)]) (Bn .add (g b 0) (.int .i64 1) fun a=>.leaf 0 [a])) (.leaf 2 [g b 0])) fun a b=>aA a 1 (.leaf 1 b) (aA a 2 (.fin [.val (.int .i64 (-1))]) .bad)
theorem Zy (x0 x1:AV):CC Tryz.prog sQ [x0,x1] (Zw x0 x1):=cc Tryz.func276 [0,1,7,8] (fun _=>[])
def Pq (x0 x1:AV):Prog:=.op (.box x1) fun a=>.op (.jC Ib [a]) fun a=>Cl sQ [x0,a] fun a=>.fin [.val a]
theorem agf (x0 x1:AV):CC Tryz.prog BP [x0,x1] (Pq x0 x1):=cc Tryz.func243
def PD (x0:AV):Prog:=.op (.box x0) fun a=>Lg 0 a fun b=>Cl bK [b,.int .i64 0,.int .i64 2147483647] fun b=>.op (.una .not b) fun b=>Gf b false 1 a fun c=>.gop b false (.len 0 c) fun c=>.gop b false (.bin 0 .neq c (.int .i64 8)) fun c=>Pk b (.bool true) c fun b=>Gf b false 2 a fun c=>.gop b false (.len 0 c) fun c=>.gop b false (.bin 0 .neq c (.int .i64 8)) fun c=>Pk b (.bool true) c fun b=>.gop b false (.ldn 4 a) fun c=>Gf b false 3 a fun d=>.gop b false (.call qE [c,d,.int .i64 2,.int .i64 0]) fun c=>.gop b false (.una .not c) fun c=>Pk b (.bool true) c fun b=>.ite b (.fin [.val (.bool false)]) (.loop [.int .i64 0] (fun b=>Bn .lss (g b 0) (.int .i64 8) fun c=>.ite c (Ld 4 a fun c=>Lg 1 a fun d=>Ix 1 d (g b 0) fun d=>.op (.ld1 d) fun d=>Cl qE [c,d,.int .i64 0,g b 0] fun c=>.op (.una .not c) fun c=>.gop c false (.ldn 4 a) fun d=>Gf c false 2 a fun a=>.gop c false (.mv (g b 0)) fun e=>.gop c false (.idx 1 a e) fun a=>.gop c false (.ld1 a) fun a=>.gop c false (.mv (g b 0)) fun e=>.gop c false (.call qE [d,a,.int .i64 1,e]) fun a=>.gop c false (.una .not a) fun a=>Pk c (.bool true) a fun a=>.ite a (.fin [.val (.bool false)]) (Bn .add (g b 0) (.int .i64 1) fun a=>.leaf 0 [a])) (.leaf 2 [g b 0])) fun b c=>aA b 1 (.leaf 1 c) (aA b 2 (Ld 4 a fun a=>Cl ug [a] fun a=>Ln 0 a fun b=>.loop [.int .i64 0] (fun c=>Bn .lss (g c 0) b fun b=>.ite b (Ix 3 a (g c 0) fun b=>Ld 3 b fun b=>.op (.alloc [.int .i64 0,.int .i64 0,.int .i64 0]) fun d=>.op (.st 3 d b) fun _=>Lg 0 d fun b=>Cl BP [a,b] fun a=>Bn .neq a (g c 0) fun a=>.ite a (.fin [.val (.bool false)]) (Bn .add (g c 0) (.int .i64 1) fun a=>.leaf 0 [a])) (.leaf 4 [g c 0])) fun b c=>aA b 1 (.leaf 1 c) (aA b 4 (Ln 0 a fun a=>Bn .leq a (.int .i64 16) fun a=>.fin [.val a]) .bad)) .bad))
theorem agn (x0:AV):CC Tryz.prog BR [x0] (PD x0):=cc Tryz.func197 [1,3,4,56,57,58] (fun r=>if r=6 then[(0,[]),(1,[]),(2,[]),(3,[]),(4,[]),(5,[]),(6,[]),(7,[]),(8,[]),(9,[]),(10,[]),(11,[]),(12,[]),(13,[]),(14,[]),(15,[]),(16,[]),(17,[]),(18,[]),(19,[])] else[])
def OT (x0:AV):Prog:=.op (.box x0) fun a=>Lg 1 a fun b=>Ln 0 b fun b=>Bn .neq b (.int .i64 8) fun b=>Gf b false 2 a fun c=>.gop b false (.len 0 c) fun c=>.gop b false (.bin 0 .neq c (.int .i64 8)) fun c=>Pk b (.bool true) c fun b=>Gf b false 0 a fun c=>.gop b false (.call bP [c,.int .i64 0,.int .i64 2147483647]) fun c=>.gop b false (.una .not c) fun c=>Pk b (.bool true) c fun b=>.gop b false (.ldn 4 a) fun c=>Gf b false 3 a fun d=>.gop b false (.call qF [c,d,.int .i64 3,.int .i64 0]) fun c=>.gop b false (.una .not c) fun c=>Pk b (.bool true) c fun b=>.ite b (.fin [.val (.bool false)]) (.loop [.int .i64 0] (fun b=>Bn .lss (g b 0) (.int .i64 8) fun c=>.ite c (Ld 4 a fun c=>Lg 1 a fun d=>Ix 1 d (g b 0) fun d=>.op (.ld1 d) fun d=>Cl qF [c,d,.int .i64 1,g b 0] fun c=>.op (.una .not c) fun c=>.gop c false (.ldn 4 a) fun d=>Gf c false 2 a fun a=>.gop c false (.mv (g b 0)) fun e=>.gop c false (.idx 1 a e) fun a=>.gop c false (.ld1 a) fun a=>.gop c false (.mv (g b 0)) fun e=>.gop c false (.call qF [d,a,.int .i64 2,e]) fun a=>.gop c false (.una .not a) fun a=>Pk c (.bool true) a fun a=>.ite a (.fin [.val (.bool false)]) (Bn .add (g b 0) (.int .i64 1) fun a=>.leaf 0 [a])) (.leaf 2 [g b 0])) fun b c=>aA b 1 (.leaf 1 c) (aA b 2 (Ld 4 a fun a=>Cl qH [a] fun a=>.loop [.int .i64 0,.tup []] (fun b=>Ln 0 a fun c=>Bn .lss (g b 0) c fun c=>.ite c (.loop [.int .i64 0] (fun c=>Bn .lss (g c 0) (g b 0) fun d=>.ite d (Ix 3 a (g c 0) fun d=>Lg 0 d fun d=>Ix 3 a (g b 0) fun a=>Lg 0 a fun a=>Bn .eql d a fun a=>.ite a (.fin [.val (.bool false)]) (Bn .add (g c 0) (.int .i64 1) fun a=>.leaf 0 [a])) (.leaf 6 [g c 0])) fun a c=>aA a 1 (.leaf 1 c) (aA a 6 (Bn .add (g b 0) (.int .i64 1) fun a=>.leaf 0 [a,g c 0]) .bad)) (.leaf 4 [g b 0,g b 1])) fun b c=>aA b 1 (.leaf 1 c) (aA b 4 (Ln 0 a fun a=>Bn .leq a (.int .i64 16) fun a=>.fin [.val a]) .bad)) .bad))
theorem afB (x0:AV):CC Tryz.prog Bh [x0] (OT x0):=cc Tryz.func102 [1,3,4,5,6] (fun r=>if r=6 then[(0,[]),(1,[]),(2,[]),(3,[]),(4,[]),(5,[]),(6,[]),(7,[]),(8,[]),(9,[]),(10,[]),(11,[]),(12,[]),(13,[]),(14,[]),(15,[]),(16,[]),(17,[]),(18,[]),(19,[])] else if r=15 then[(0,[]),(1,[]),(2,[]),(3,[]),(4,[]),(5,[]),(6,[]),(7,[]),(8,[]),(9,[]),(10,[])] else[])
end
def timers (w:dN):List Ab.Timer:=(w.near.flatten++w.far.flatten)++w.rest
theorem E5 {l:List (List Ab.Timer)} {i:Nat} {x:List Ab.Timer} (ht:l.take (i+1)=l.take i++[x]):(l.take (i+1)).flatten=(l.take i).flatten++x:=by rw[ht];simp
theorem kT:∀ l:List (List Ab.Timer),l.flatten.length≤szs l
 |[]=>by simp
 |x::l=>by
  have:=kT l
  have h2:Sz.sz x=x.length+szs x:=rfl
  simp only[List.flatten_cons,List.length_append,szs];omega
theorem Je {h:AH} {w:dN} {v0 v1 v2:AV} {F0 F1 F2:List Nat} (hs:Sz.sz w≤67108864) (r0:au h v0 w.near F0) (r1:au h v1 w.far F1) (r2:au h v2 w.rest F2):cZ Tryz.prog ug [.agg (w.cs v0 v1 v2)] h (sM Ab.Timer h (timers w)):=by
 have hsz:Sz.sz w=(w.near.length+szs w.near)+(w.far.length+szs w.far)+(w.rest.length+szs w.rest):=rfl
 refine ah6 _ ?_
 unfold Q5
 have hb0:=kT w.near
 have hb1:=kT w.far
 (repeat' first|refine vs ?_|fail)
 refine aY w.near.length (fun i vs h1=>∃ u G,vs=[u,.int .i64 (i:Int)]∧i≤w.near.length∧Ext (h.push ⟨w.cs v0 v1 v2,0,0⟩) h1∧au h1 u (w.near.take i).flatten G∧Own (h.n+1) h1 G) ⟨.aF,[],rfl,Nat.zero_le _,aG,au.aF,Own.nil⟩ ?_
 rintro i vs h1 _ ⟨u,G,rfl,hi,e1,ru,ou⟩
 have n1:=e1.1
 simp only[aO] at n1
 simp only[g0,g1]
 have hb:=kT (w.near.take i)
 have hle:=gP w.near i
 refine br (fun hlt=>?_) (fun hge=>?_)
 ·obtain⟨x,hx,-,htk⟩:=aR (show i < w.near.length by omega)
  have hm:=bI (List.mem_of_getElem? hx)
  have hx2:Sz.sz x=x.length+szs x:=rfl
  refine vs ?_
  refine bS r0 hx rfl ?_
  rintro b o _ Fi a ⟨vx,rfl,rx⟩ _
  (repeat' first|refine vs ?_|fail)
  refine nL (n:=h.n+1) (xs:=(w.near.take i).flatten) (ys:=x) (Fx:=G) ah (ah:au _ vx x Fi) bJ aP rfl ?_ ?_ ?_
  ·omega
  ·omega
  intro u' h' F' ek kp r' o'
  (repeat' first|refine vs ?_|fail)
  exact⟨by omega,u',F',rfl,by omega,ek _ e1 (by simp only[aO];omega),by rw[E5 htk];exact r',o'⟩
 ·have e:i=w.near.length:=by omega
  rw[e,List.take_length] at ru
  clear hb hle
  (repeat' first|refine vs ?_|((with_reducible refine aJ ?_);simp only[g0,g1,g2]))
  refine aY w.far.length (fun i vs h1=>∃ u G,vs=[u,.int .i64 (i:Int)]∧i≤w.far.length∧Ext (h.push ⟨w.cs v0 v1 v2,0,0⟩) h1∧au h1 u (w.near.flatten++(w.far.take i).flatten) G∧Own (h.n+1) h1 G) ⟨u,G,rfl,Nat.zero_le _,e1,by simpa using ru,ou⟩ ?_
  clear ru ou e1 n1
  rintro i vs h1 _ ⟨u,G,rfl,hi,e1,ru,ou⟩
  have n1:=e1.1
  simp only[aO] at n1
  simp only[g0,g1]
  have hb:=kT (w.far.take i)
  have hle:=gP w.far i
  refine br (fun hlt=>?_) (fun hge=>?_)
  ·obtain⟨x,hx,-,htk⟩:=aR (show i < w.far.length by omega)
   have hm:=bI (List.mem_of_getElem? hx)
   have hx2:Sz.sz x=x.length+szs x:=rfl
   refine vs ?_
   refine bS r1 hx rfl ?_
   rintro b o _ Fi a ⟨vx,rfl,rx⟩ _
   (repeat' first|refine vs ?_|fail)
   refine nL (n:=h.n+1) (xs:=w.near.flatten++(w.far.take i).flatten) (ys:=x) (Fx:=G) ah (ah:au _ vx x Fi) bJ aP rfl ?_ ?_ ?_
   ·rw[List.length_append];omega
   ·rw[List.length_append];omega
   intro u' h' F' ek kp r' o'
   (repeat' first|refine vs ?_|fail)
   exact⟨by omega,u',F',rfl,by omega,ek _ e1 (by simp only[aO];omega),by rw[E5 htk,←List.append_assoc];exact r',o'⟩
  ·have e:i=w.far.length:=by omega
   rw[e,List.take_length] at ru
   (repeat' first|refine vs ?_|((with_reducible refine aJ ?_);simp only[g0,g1,g2]))
   refine nL (n:=h.n+1) (xs:=w.near.flatten++w.far.flatten) (ys:=w.rest) (Fx:=G) ah (ah:au _ v2 w.rest F2) bJ aP rfl ?_ ?_ ?_
   ·rw[List.length_append];omega
   ·rw[List.length_append];omega
   intro u' h' F' ek kp r' o'
   (repeat' first|refine vs ?_|fail)
   exact⟨rfl,_,rfl,ek _ aG (by omega),_,r',o'.mono (by omega) fun _ _=>rfl⟩
theorem Cb {h:AH} {w:dN} {v0 v1 v2:AV} {F0 F1 F2:List Nat} (hs:Sz.sz w≤67108864) (r0:au h v0 w.near F0) (r1:au h v1 w.far F1) (r2:au h v2 w.rest F2):cZ Tryz.prog qH [.agg (w.cs v0 v1 v2)] h (sM Ab.Timer h (timers w)):=by
 have hsz:Sz.sz w=(w.near.length+szs w.near)+(w.far.length+szs w.far)+(w.rest.length+szs w.rest):=rfl
 refine ahx _ ?_
 unfold Qr
 have hb0:=kT w.near
 have hb1:=kT w.far
 have hl0:=r0.small
 have hl1:=r1.small
 refine vs ?_
 obtain⟨re,oe⟩:=gF (h:=h.push ⟨w.cs v0 v1 v2,0,0⟩) (α:=Ab.Timer) (w:=3) rfl
 refine aY w.near.length (fun i vs h1=>∃ u G,vs=[u,.int .i64 (i:Int)]∧i≤w.near.length∧Ext (h.push ⟨w.cs v0 v1 v2,0,0⟩) h1∧au h1 u (w.near.take i).flatten G∧Own (h.n+1) h1 G) ⟨_,_,rfl,Nat.zero_le _,aG,re,oe _ (Nat.le_refl _)⟩ ?_
 rintro i vs h1 _ ⟨u,G,rfl,hi,e1,ru,ou⟩
 have n1:=e1.1
 simp only[aO] at n1
 simp only[g0,g1]
 have hb:=kT (w.near.take i)
 have hle:=gP w.near i
 refine vs ?_
 refine br (fun hlt=>?_) (fun hge=>?_)
 ·obtain⟨x,hx,-,htk⟩:=aR (show i < w.near.length by omega)
  have hm:=bI (List.mem_of_getElem? hx)
  have hx2:Sz.sz x=x.length+szs x:=rfl
  refine vs ?_
  refine bS r0 hx rfl ?_
  rintro b o _ Fi a ⟨vx,rfl,rx⟩ _
  (repeat' first|refine vs ?_|fail)
  refine nL (n:=h.n+1) (xs:=(w.near.take i).flatten) (ys:=x) (Fx:=G) ah (ah:au _ vx x Fi) bJ aP rfl ?_ ?_ ?_
  ·omega
  ·omega
  intro u' h' F' ek kp r' o'
  (repeat' first|refine vs ?_|fail)
  exact⟨by omega,u',F',rfl,by omega,ek _ e1 (by simp only[aO];omega),by rw[E5 htk];exact r',o'⟩
 ·have e:i=w.near.length:=by omega
  rw[e,List.take_length] at ru
  clear hb hle
  (repeat' first|refine vs ?_|((with_reducible refine aJ ?_);simp only[g0,g1,g2]))
  refine aY w.far.length (fun i vs h1=>∃ u G,vs=[u,.int .i64 (i:Int)]∧i≤w.far.length∧Ext (h.push ⟨w.cs v0 v1 v2,0,0⟩) h1∧au h1 u (w.near.flatten++(w.far.take i).flatten) G∧Own (h.n+1) h1 G) ⟨u,G,rfl,Nat.zero_le _,e1,by simpa using ru,ou⟩ ?_
  clear ru ou e1 n1
  rintro i vs h1 _ ⟨u,G,rfl,hi,e1,ru,ou⟩
  have n1:=e1.1
  simp only[aO] at n1
  simp only[g0,g1]
  have hb:=kT (w.far.take i)
  have hle:=gP w.far i
  refine vs ?_
  refine br (fun hlt=>?_) (fun hge=>?_)
  ·obtain⟨x,hx,-,htk⟩:=aR (show i < w.far.length by omega)
   have hm:=bI (List.mem_of_getElem? hx)
   have hx2:Sz.sz x=x.length+szs x:=rfl
   refine vs ?_
   refine bS r1 hx rfl ?_
   rintro b o _ Fi a ⟨vx,rfl,rx⟩ _
   (repeat' first|refine vs ?_|fail)
   refine nL (n:=h.n+1) (xs:=w.near.flatten++(w.far.take i).flatten) (ys:=x) (Fx:=G) ah (ah:au _ vx x Fi) bJ aP rfl ?_ ?_ ?_
   ·rw[List.length_append];omega
   ·rw[List.length_append];omega
   intro u' h' F' ek kp r' o'
   (repeat' first|refine vs ?_|fail)
   exact⟨by omega,u',F',rfl,by omega,ek _ e1 (by simp only[aO];omega),by rw[E5 htk,←List.append_assoc];exact r',o'⟩
  ·have e:i=w.far.length:=by omega
   rw[e,List.take_length] at ru
   (repeat' first|refine vs ?_|((with_reducible refine aJ ?_);simp only[g0,g1,g2]))
   refine nL (n:=h.n+1) (xs:=w.near.flatten++w.far.flatten) (ys:=w.rest) (Fx:=G) ah (ah:au _ v2 w.rest F2) bJ aP rfl ?_ ?_ ?_
   ·rw[List.length_append];omega
   ·rw[List.length_append];omega
   intro u' h' F' ek kp r' o'
   (repeat' first|refine vs ?_|fail)
   exact⟨rfl,_,rfl,ek _ aG (by omega),_,r',o'.mono (by omega) fun _ _=>rfl⟩
def gL (now kind slot:Int) (t:Ab.Timer):Prop:=1≤t.id∧(1≤t.trace∧t.trace≤999)∧now < t.at_∧t.at_≤2147483647∧
 ((kind=0∧t.at_ / 8=now / 8∧t.at_ % 8=slot)∨(kind=1∧1≤t.at_ / 8 - now / 8∧t.at_ / 8 - now / 8≤7∧t.at_ / 8 % 8=slot)∨(kind=2∧8≤t.at_ / 8 - now / 8))
theorem tm8 {a:Int} (h:0≤a):a.tmod 8=a % 8:=Int.tmod_eq_emod_of_nonneg h
theorem Ov {h:AH} {w:dN} {l:List Ab.Timer} {v v0 v1 v2:AV} {F:List Nat} {kind slot:Int} (h0:0≤w.now) (h1:w.now≤2147483647) (hk:kind=0∨kind=1∨kind=2) (r:au h v l F):aN Tryz.prog qE [.agg (w.cs v0 v1 v2),v,.int .i64 kind,.int .i64 slot] h (.bool (bp (∀ t∈l,gL w.now kind slot t))):=by
 refine reader (agl _ _ _ _) (by simp only[old]) ?_
 unfold Py
 have hsm:=r.small
 (repeat' first|refine vs ?_|fail)
 refine aY l.length (fun i vs h1=>∃ z,vs=[z,.int .i64 (i:Int)]∧i≤l.length∧Ext (h.push ⟨w.cs v0 v1 v2,0,0⟩) h1∧bW l (fun _ t=>gL w.now kind slot t) i) ⟨_,rfl,Nat.zero_le _,aG,up0⟩ ?_
 rintro i vs h2 _ ⟨z,rfl,hi,e1,hu⟩
 simp only[g0,g1]
 refine br (fun hlt=>?_) (fun hge=>?_)
 ·obtain⟨x,hx,-,-⟩:=aR (show i < l.length by omega)
  (repeat' first|refine vs ?_|(refine br ?_ ?_<;>first|exact bo|intro _)|((with_reducible refine aB bK ?_);(refine cK eY ?_ ?_<;>intro hb<;>(first|replace hb:=dx hb|replace hb:=dz hb)))|((with_reducible refine aC ?_);((refine ix ?_);rintro _ _ _ _ _ ⟨rfl,rfl⟩ _))|((with_reducible refine aJ ?_);simp only[g0,g1,g2]))
  all_goals(have t1:=tm8 (a:=x.at_);have t2:=tm8 (a:=x.at_ / 8))
  all_goals first
   |exact pf fun k=>gY hx (by unfold gL;omega) k
   |exact⟨by omega,_,rfl,by omega,aG,upS hu hx (by unfold gL;omega)⟩
 ·(repeat' first|refine vs ?_|fail)
  rw[show i=l.length by omega] at hu
  exact pt (dX hu)
theorem aek {h:AH} {now at_:Int}:0≤now→now≤2147483647→0≤at_→at_≤2147483647→aN Tryz.prog Ba [.int .i64 now,.int .i64 at_] h (.tup [.int .i64 (if at_ / 8=now / 8 then 1 else if at_ / 8 - now / 8 < 8 then 2 else 3),.int .i64 (if at_ / 8=now / 8 then at_ % 8 else if at_ / 8 - now / 8 < 8 then at_ / 8 % 8 else 0)]):=by
 intro h0 h1 h2 h3
 refine reader (afp _ _) (by simp[old,olds]) ?_
 unfold OB
 have t1:=tm8 (a:=at_) h2
 have t2:=tm8 (a:=at_ / 8) (by omega)
 (repeat' first|refine vs ?_|(refine br ?_ ?_<;>first|exact bx|intro _)|fail)
 all_goals(refine⟨rfl,?_,Ext.refl _⟩;first|(simp_all;done)|(simp_all;omega))
theorem Ja {h:AH} {w:dN} {l:List Ab.Timer} {v v0 v1 v2:AV} {F:List Nat} {kind slot k1:Int} (h0:0≤w.now) (h1:w.now≤2147483647) (hk:kind=0∨kind=1∨kind=2∧slot=0) (hk1:k1=kind+1) (r:au h v l F):aN Tryz.prog qF [.agg (w.cs v0 v1 v2),v,.int .i64 k1,.int .i64 slot] h (.bool (bp (∀ t∈l,gL w.now kind slot t))):=by
 subst hk1
 refine reader (ahn _ _ _ _) (by simp only[old]) ?_
 unfold Qj
 have hsm:=r.small
 (repeat' first|refine vs ?_|fail)
 refine aY l.length (fun i vs h1=>vs=[.int .i64 (i:Int)]∧i≤l.length∧Ext (h.push ⟨w.cs v0 v1 v2,0,0⟩) h1∧bW l (fun _ t=>gL w.now kind slot t) i) ⟨rfl,Nat.zero_le _,aG,up0⟩ ?_
 rintro i vs h2 _ ⟨rfl,hi,e1,hu⟩
 simp only[g0]
 refine vs ?_
 refine br (fun hlt=>?_) (fun hge=>?_)
 ·obtain⟨x,hx,-,-⟩:=aR (show i < l.length by omega)
  (repeat' first|refine vs ?_|(refine br ?_ ?_<;>first|exact bx|intro _)|((with_reducible refine aB bP ?_);(refine cK fV ?_ ?_<;>intro hb<;>(first|replace hb:=dx hb|replace hb:=dz hb)))|((with_reducible refine aB Ba ?_);(refine aQ (aek (by omega) (by omega) (by omega) (by omega)) ?_))|((with_reducible refine aC ?_);((refine ix ?_);rintro _ _ _ _ _ ⟨rfl,rfl⟩ _))|fail)
  all_goals first
   |exact pf fun k=>gY hx (by unfold gL;omega) k
   |exact⟨by omega,rfl,by omega,aG,upS hu hx (by unfold gL;omega)⟩
 ·(repeat' first|refine vs ?_|fail)
  rw[show i=l.length by omega] at hu
  exact pt (dX hu)
def pR (k:Int) (t:Ab.Timer):Bool:=decide (t.id=k)
theorem aiS {h:AH} {b:Nat} {k:Int} (a:At h b 0 [.int .i64 k]):Looks Ab.Timer Tryz.prog h Ib [.ptr b 0] (pR k):=by
 rintro x cs F ⟨rfl,rfl⟩
 refine reader (acI _ _) (by simp only[old]) ?_
 unfold M4
 (repeat' first|refine vs ?_|(refine br ?_ ?_<;>first|exact bx|intro _)|fail)
 all_goals(refine pb ?_;simp[pR, *])
theorem LV {h:AH} {xs:List Ab.Timer} {x0:AV} {F:List Nat} {f:FuncId} {caps:List AV} {p:Ab.Timer→Bool} (r:au h x0 xs F) (hf:Looks Ab.Timer Tryz.prog h f caps p):
  aN Tryz.prog sQ [x0,.fn f caps] h (.int .i64 (idx p xs)):=
 reader (Zy _ _) (by simp only[old]) (Dk (w:=3) rfl r hf)
theorem aeX {h:AH} {xs:List Ab.Timer} {x0:AV} {F:List Nat} {k:Int} (r:au h x0 xs F):aN Tryz.prog BP [x0,.int .i64 k] h (.int .i64 (idx (pR k) xs)):=by
 refine reader (agf _ _) (by simp only[old]) ?_
 unfold Pq
 (repeat' first|refine vs ?_|((with_reducible refine aB sQ ?_);refine aQ (LV ah (aiS iF)) ?_)|fail)
 exact pi rfl
def alj {α:Type} (f:α→Int) (l:List α):Prop:=∀ (i:Nat) (x:α),l[i]? =some x→∀ (j:Nat) (y:α),j < i→l[j]? =some y→f y≠f x
theorem aj0 {α:Type} {p:α→Bool} {l:List α} {i:Nat} {x:α} (hx:l[i]? =some x) (hp:p x=true):idx p l=i↔∀ (j:Nat) (y:α),j < i→l[j]? =some y→p y=false:=by
 constructor
 ·intro h j y hj hy
  rcases uG p l with⟨e,-⟩|⟨k,z,e,hz,hpz,hf⟩
  ·omega
  ·have:k=i:=by omega
   subst this
   rw[List.filter_eq_self] at hf
   have hm:y∈l.take k:=by
    rw[List.mem_iff_getElem?]
    exact⟨j,by rw[List.getElem?_take,if_pos hj];exact hy⟩
   simpa using hf y hm
 ·exact fun h=>rA hx hp h
def xW (w:dN):Prop:=(0≤w.now∧w.now≤2147483647)∧(w.near.length:Int)=8∧(w.far.length:Int)=8∧(∀ t∈w.rest,gL w.now 2 0 t)∧
 (∀ (i:Nat) (a b:List Ab.Timer),w.near[i]? =some a→w.far[i]? =some b→(∀ t∈a,gL w.now 0 i t)∧∀ t∈b,gL w.now 1 i t)∧alj (·.id) (timers w)∧((timers w).length:Int)≤16
theorem ajn (t:Ab.Timer):pR t.id t=true:=by simp[pR]
theorem ae1 {h:AH} {w:dN} {v0 v1 v2:AV} {F0 F1 F2:List Nat} (hs:Sz.sz w≤67108864) (r0:au h v0 w.near F0) (r1:au h v1 w.far F1) (r2:au h v2 w.rest F2):aN Tryz.prog BR [.agg (w.cs v0 v1 v2)] h (.bool (bp (xW w))):=by
 refine reader (agn _) (by simp only[old]) ?_
 unfold PD
 (repeat' first|refine vs ?_|(refine br ?_ ?_<;>first|exact bx|intro _)|((with_reducible refine aB bK ?_);(refine cK eY ?_ ?_<;>intro hb<;>(first|replace hb:=dx hb|replace hb:=dz hb)))|((with_reducible refine aB qE ?_);(refine aX (Ov (w:=w) (by omega) (by omega) (by omega) ah) ?_ ?_<;>intro hn))|fail)
 all_goals first
  |exact pf fun k=>by obtain⟨a1,a2,a3,a4,-⟩:=k;first|omega|contradiction
  |skip
 have Ll:=hb
 have hrest:=hn
 refine aY 8 (fun i vs h1=>vs=[.int .i64 (i:Int)]∧i≤8∧Ext (h.push ⟨w.cs v0 v1 v2,0,0⟩) h1∧∀ (j:Nat) (a b:List Ab.Timer),j < i→w.near[j]? =some a→w.far[j]? =some b→(∀ t∈a,gL w.now 0 j t)∧∀ t∈b,gL w.now 1 j t) ⟨rfl,Nat.zero_le _,aG,fun j a b hj=>by omega⟩ ?_
 rintro i vs h1 _ ⟨rfl,hi,e1,hu⟩
 simp only[g0]
 refine br (fun hlt=>?_) (fun hge=>?_)
 ·obtain⟨x,hx,-,-⟩:=aR (show i < w.near.length by omega)
  obtain⟨y,hy,-,-⟩:=aR (show i < w.far.length by omega)
  (repeat' first|refine vs ?_|((with_reducible refine aB qE ?_);(refine aX (Ov (w:=w) (by omega) (by omega) (by omega) ah) ?_ ?_<;>intro hn))|((with_reducible refine aC ?_);((refine ix ?_);rintro _ _ _ _ _ ⟨_,rfl,_⟩ _))|fail)
  all_goals first
   |exact pf fun k=>by have k:=k.2.2.2.2.1 i x y hx hy;first|exact absurd k.1 (by assumption)|exact absurd k.2 (by assumption)
   |skip
  refine⟨by omega,rfl,by omega,aG,fun j a b hj ha hb=>?_⟩
  by_cases e:j=i
  ·subst e;rw[hx] at ha;rw[hy] at hb;cases ha;cases hb
   exact⟨by assumption,by assumption⟩
  ·exact hu j a b (by omega) ha hb
 ·(repeat' first|refine vs ?_|fail)
  refine aT (Je hs ah ah ah) ?_
  rintro w1 h2 ⟨e2,G1,q1,o1⟩
  refine bQ q1 ?_
  have hsm:=q1.small
  refine aY (timers w).length (fun i vs h3=>vs=[.int .i64 (i:Int)]∧i≤(timers w).length∧Ext h2 h3∧bW (timers w) (fun i x=>∀ (j:Nat) (y:Ab.Timer),j < i→(timers w)[j]? =some y→y.id≠x.id) i) ⟨rfl,Nat.zero_le _,Ext.refl _,up0⟩ ?_
  rintro k vs h3 _ ⟨rfl,hk,e3,hu3⟩
  simp only[g0]
  refine br (fun hlt=>?_) (fun Lr=>?_)
  ·obtain⟨x,hx,-,-⟩:=aR (show k < (timers w).length by omega)
   have hf:=aj0 hx (ajn x)
   refine vs ?_
   refine bS q1 hx rfl ?_
   rintro b o _ Fi a ⟨rfl,rfl⟩ _
   (repeat' first|refine vs ?_|(refine br ?_ ?_<;>first|exact bx|intro _)|((with_reducible refine aB BP ?_);refine aQ (aeX ah) ?_)|fail)
   ·rename_i hne
    exact pf fun kk=>hne (hf.2 fun j y hj hy=>by have:=kk.2.2.2.2.2.1 k x hx j y hj hy;simpa[pR] using this)
   ·rename_i heq
    exact⟨by omega,rfl,by omega,aG,upS hu3 hx fun j y hj hy=>by have:=hf.1 heq j y hj hy;simpa[pR] using this⟩
  ·rw[show k=(timers w).length by omega] at hu3
   have hu3:=iU hu3
   (repeat' first|refine vs ?_|(refine br ?_ ?_<;>first|exact bx|intro _)|fail)
   ·exact pt ⟨Ll,by omega,by omega,hrest,fun i' a b ha hb=>hu i' a b (by have:=(List.getElem?_eq_some_iff.1 ha).1;omega) ha hb,hu3,by omega⟩
   ·exact pf fun kk=>by have:=kk.2.2.2.2.2.2;omega
theorem aes {h:AH} {w:dN} {v0 v1 v2:AV} {F0 F1 F2:List Nat} (hs:Sz.sz w≤67108864) (r0:au h v0 w.near F0) (r1:au h v1 w.far F1) (r2:au h v2 w.rest F2):aN Tryz.prog Bh [.agg (w.cs v0 v1 v2)] h (.bool (bp (xW w))):=by
 refine reader (afB _) (by simp only[old]) ?_
 unfold OT
 (repeat' first|refine vs ?_|(refine br ?_ ?_<;>first|exact bx|intro _)|((with_reducible refine aB bP ?_);(refine cK fV ?_ ?_<;>intro hb<;>(first|replace hb:=dx hb|replace hb:=dz hb)))|((with_reducible refine aB qF ?_);(refine aX (Ja (w:=w) (kind:=2) (by omega) (by omega) (by omega) (by rfl) ah) ?_ ?_<;>intro hn))|fail)
 all_goals first
  |exact pf fun k=>by obtain⟨a1,a2,a3,a4,-⟩:=k;first|omega|contradiction
  |skip
 have Ll:=hb
 have hrest:=hn
 refine aY 8 (fun i vs h1=>vs=[.int .i64 (i:Int)]∧i≤8∧Ext (h.push ⟨w.cs v0 v1 v2,0,0⟩) h1∧∀ (j:Nat) (a b:List Ab.Timer),j < i→w.near[j]? =some a→w.far[j]? =some b→(∀ t∈a,gL w.now 0 j t)∧∀ t∈b,gL w.now 1 j t) ⟨rfl,Nat.zero_le _,aG,fun j a b hj=>by omega⟩ ?_
 rintro i vs h1 _ ⟨rfl,hi,e1,hu⟩
 simp only[g0]
 refine br (fun hlt=>?_) (fun hge=>?_)
 ·obtain⟨x,hx,-,-⟩:=aR (show i < w.near.length by omega)
  obtain⟨y,hy,-,-⟩:=aR (show i < w.far.length by omega)
  (repeat' first|refine vs ?_|((with_reducible refine aB qF ?_);((first|refine cK (Ja (w:=w) (kind:=0) (l:=x) (by omega) (by omega) (by omega) (by rfl) ah) ?_ ?_|refine cK (Ja (w:=w) (kind:=1) (l:=y) (by omega) (by omega) (by omega) (by rfl) ah) ?_ ?_)<;>intro hn<;>first|replace hn:=oW hn|replace hn:=DX hn))|((with_reducible refine aC ?_);((refine ix ?_);rintro _ _ _ _ _ ⟨_,rfl,_⟩ _))|fail)
  all_goals first
   |exact pf fun k=>by have k:=k.2.2.2.2.1 i x y hx hy;first|exact absurd k.1 (by assumption)|exact absurd k.2 (by assumption)
   |skip
  refine⟨by omega,rfl,by omega,aG,fun j a b hj ha hb=>?_⟩
  by_cases e:j=i
  ·subst e;rw[hx] at ha;rw[hy] at hb;cases ha;cases hb
   exact⟨by assumption,by assumption⟩
  ·exact hu j a b (by omega) ha hb
 ·(repeat' first|refine vs ?_|fail)
  refine aT (Cb hs ah ah ah) ?_
  rintro w1 h2 ⟨e2,G1,q1,o1⟩
  have hsm:=q1.small
  refine aY (timers w).length (fun i vs h3=>∃ z,vs=[.int .i64 (i:Int),z]∧i≤(timers w).length∧h3=h2∧bW (timers w) (fun i x=>∀ (j:Nat) (y:Ab.Timer),j < i→(timers w)[j]? =some y→y.id≠x.id) i) ⟨_,rfl,Nat.zero_le _,rfl,up0⟩ ?_
  rintro k vs h3 _ ⟨z,rfl,hk,rfl,hu3⟩
  simp only[g0]
  refine bQ q1 ?_
  refine br (fun hlt=>?_) (fun Lr=>?_)
  ·obtain⟨x,hx,-,-⟩:=aR (show k < (timers w).length by omega)
   refine dH ?_
   refine aY k (fun j vs h4=>vs=[.int .i64 (j:Int)]∧j≤k∧h4=h3∧∀ (m:Nat) (y:Ab.Timer),m < j→(timers w)[m]? =some y→y.id≠x.id) ⟨rfl,Nat.zero_le _,rfl,fun m y hm=>by omega⟩ ?_
   rintro j vs h4 _ ⟨rfl,hj,rfl,hu4⟩
   simp only[g0]
   refine br (fun anE=>?_) (fun hge4=>?_)
   ·obtain⟨y,hy,-,-⟩:=aR (show j < (timers w).length by omega)
    (repeat' first|refine vs ?_|(refine br ?_ ?_<;>first|exact bx|intro _)|((with_reducible refine aC ?_);((refine ix ?_);rintro _ _ _ _ _ ⟨rfl,rfl⟩ _))|fail)
    ·rename_i he
     exact pf fun kk=>kk.2.2.2.2.2.1 k x hx j y (by omega) hy he
    ·rename_i he
     refine⟨by omega,rfl,by omega,rfl,fun m z hm hz=>?_⟩
     by_cases e:m=j
     ·subst e;rw[hy] at hz;cases hz;exact he
     ·exact hu4 m z (by omega) hz
   ·have e:j=k:=by omega
    subst e
    (repeat' first|refine vs ?_|fail)
    exact⟨by omega,_,rfl,by omega,rfl,upS hu3 hx hu4⟩
  ·rw[show k=(timers w).length by omega] at hu3
   have hu3:=iU hu3
   (repeat' first|refine vs ?_|(refine br ?_ ?_<;>first|exact bx|intro _)|fail)
   ·exact pt ⟨Ll,by omega,by omega,hrest,fun i' a b ha hb=>hu i' a b (by have:=(List.getElem?_eq_some_iff.1 ha).1;omega) ha hb,hu3,by omega⟩
   ·exact pf fun kk=>by have:=kk.2.2.2.2.2.2;omega
end Go.Proofs.YtekfdoknfcedpaaGreat
end
section
set_option linter.unusedSimpArgs false
set_option linter.unusedVariables false
set_option maxHeartbeats 2000000
namespace Go.Proofs.YtekfdoknfcedpaaGreat
open Go Go.Ab
section
def Mf (x0 x1:AV):Prog:=.op (.box x0) fun a=>Lg 0 a fun a=>.op (.ld1 x1) fun b=>Bn .eql a b fun a=>.fin [.val a]
theorem aar (x0 x1:AV):CC Tryz.prog GX [x0,x1] (Mf x0 x1):=cc Tryz.func301
def Zj (x0 x1:AV):Prog:=Ln 0 x0 fun a=>.loop [.int .i64 0] (fun b=>Bn .lss (g b 0) a fun a=>.ite a (Ix 3 x0 (g b 0) fun a=>Ld 3 a fun a=>.op (.fE x1 [a]) fun a=>.ite a (.fin [.val (g b 0)]) (Bn .add (g b 0) (.int .i64 1) fun a=>.leaf 0 [a])) (.leaf 2 [g b 0])) fun a b=>aA a 1 (.leaf 1 b) (aA a 2 (.fin [.val (.int .i64 (-1))]) .bad)
theorem Zk (x0 x1:AV):CC Tryz.prog wm [x0,x1] (Zj x0 x1):=cc Tryz.func300 [0,1,7,8] (fun _=>[])
def M0 (x0 x1:AV):Prog:=.op (.box x1) fun a=>.op (.jC GX [a]) fun a=>Cl wm [x0,a] fun a=>.fin [.val a]
theorem acH (x0 x1:AV):CC Tryz.prog Ac [x0,x1] (M0 x0 x1):=cc Tryz.func238
def PX (x0 x1:AV):Prog:=Ln 0 x0 fun a=>.loop [.int .i64 0] (fun b=>Bn .lss (g b 0) a fun a=>.ite a (Ix 3 x0 (g b 0) fun a=>Ld 3 a fun a=>.op (.alloc [.int .i64 0,.int .i64 0,.bool false]) fun c=>.op (.st 3 c a) fun _=>Lg 0 c fun a=>Cl bK [a,.int .i64 1,.int .i64 999] fun a=>.op (.una .not a) fun a=>Gf a false 1 c fun d=>.gop a false (.bin 0 .lss d (.int .i64 1)) fun d=>Pk a (.bool true) d fun a=>.gop a false (.mv x0) fun d=>Gf a false 0 c fun c=>.gop a false (.call Ac [d,c]) fun c=>.gop a false (.mv (g b 0)) fun d=>.gop a false (.bin 0 .neq c d) fun c=>Pk a (.bool true) c fun a=>.ite a (.fin [.val (.bool false)]) (Bn .add (g b 0) (.int .i64 1) fun a=>.leaf 0 [a])) (.leaf 2 [g b 0])) fun a b=>aA a 1 (.leaf 1 b) (aA a 2 (Ln 0 x0 fun a=>Bn .leq a x1 fun a=>.fin [.val a]) .bad)
theorem agz (x0 x1:AV):CC Tryz.prog BX [x0,x1] (PX x0 x1):=cc Tryz.func200 [0,1,7,8,9] (fun _=>[])
def O1 (x0 x1:AV):Prog:=.loop [.int .i64 0,.tup []] (fun a=>Ln 0 x0 fun b=>Bn .lss (g a 0) b fun b=>.ite b (Ix 3 x0 (g a 0) fun b=>Lg 0 b fun b=>Cl bP [b,.int .i64 1,.int .i64 999] fun b=>.op (.una .not b) fun b=>.gop b false (.mv x0) fun c=>.gop b false (.mv (g a 0)) fun d=>.gop b false (.idx 3 c d) fun c=>Gf b false 1 c fun c=>.gop b false (.bin 0 .lss c (.int .i64 1)) fun c=>Pk b (.bool true) c fun b=>.ite b (.fin [.val (.bool false)]) (.loop [.int .i64 0] (fun b=>Bn .lss (g b 0) (g a 0) fun c=>.ite c (Ix 3 x0 (g b 0) fun c=>Lg 0 c fun c=>Ix 3 x0 (g a 0) fun a=>Lg 0 a fun a=>Bn .eql c a fun a=>.ite a (.fin [.val (.bool false)]) (Bn .add (g b 0) (.int .i64 1) fun a=>.leaf 0 [a])) (.leaf 4 [g b 0])) fun b c=>aA b 1 (.leaf 1 c) (aA b 4 (Bn .add (g a 0) (.int .i64 1) fun a=>.leaf 0 [a,g c 0]) .bad))) (.leaf 2 [g a 0,g a 1])) fun a b=>aA a 1 (.leaf 1 b) (aA a 2 (Ln 0 x0 fun a=>Bn .leq a x1 fun a=>.fin [.val a]) .bad)
theorem afI (x0 x1:AV):CC Tryz.prog Bp [x0,x1] (O1 x0 x1):=cc Tryz.func100 [0,1,5,6] (fun r=>if r=9 then[(0,[]),(1,[]),(2,[]),(3,[]),(4,[]),(5,[]),(6,[]),(7,[]),(8,[]),(9,[]),(10,[])] else[])
def Od (x0:AV):Prog:=.op (.box x0) fun a=>Lg 0 a fun b=>Cl bK [b,.int .i64 0,.int .i64 99] fun b=>Gf b true 1 a fun c=>.gop b true (.call bK [c,.int .i64 0,.int .i64 999]) fun c=>Pk b c (.bool false) fun b=>Gf b true 2 a fun c=>Gf b true 1 a fun d=>.gop b true (.call bK [c,.int .i64 0,d]) fun c=>Pk b c (.bool false) fun b=>Gf b true 3 a fun a=>.gop b true (.call bK [a,.int .i64 0,.int .i64 2147483647]) fun a=>Pk b a (.bool false) fun a=>.fin [.val a]
theorem aei (x0:AV):CC Tryz.prog mK [x0] (Od x0):=cc Tryz.func199
def ND (x0:AV):Prog:=.op (.box x0) fun a=>Lg 0 a fun b=>Cl bP [b,.int .i64 0,.int .i64 99] fun b=>Gf b true 1 a fun c=>.gop b true (.call bP [c,.int .i64 0,.int .i64 999]) fun c=>Pk b c (.bool false) fun b=>Gf b true 2 a fun c=>Gf b true 1 a fun d=>.gop b true (.call bP [c,.int .i64 0,d]) fun c=>Pk b c (.bool false) fun b=>Gf b true 3 a fun a=>.gop b true (.call bP [a,.int .i64 0,.int .i64 2147483647]) fun a=>Pk b a (.bool false) fun a=>.fin [.val a]
theorem adM (x0:AV):CC Tryz.prog mI [x0] (ND x0):=cc Tryz.func99
def M7 (x0:AV):Prog:=.op (.box x0) fun a=>Ld 7 a fun a=>Cl uj [a] fun a=>.op (.una .not a) fun a=>.fin [.val a]
theorem acL (x0:AV):CC Tryz.prog Ae [x0] (M7 x0):=cc Tryz.func271
def ZE (x0 x1:AV):Prog:=Ln 0 x0 fun a=>.loop [.int .i64 0] (fun b=>Bn .lss (g b 0) a fun a=>.ite a (Ix 7 x0 (g b 0) fun a=>Ld 7 a fun a=>.op (.fE x1 [a]) fun a=>.ite a (.fin [.val (g b 0)]) (Bn .add (g b 0) (.int .i64 1) fun a=>.leaf 0 [a])) (.leaf 2 [g b 0])) fun a b=>aA a 1 (.leaf 1 b) (aA a 2 (.fin [.val (.int .i64 (-1))]) .bad)
theorem ZH (x0 x1:AV):CC Tryz.prog zx [x0,x1] (ZE x0 x1):=cc Tryz.func317 [0,1,7,8] (fun _=>[])
def LP (x0 x1:AV):Prog:=Cl zx [x0,x1] fun a=>Bn .geq a (.int .i64 0) fun a=>.fin [.val a]
theorem Zm (x0 x1:AV):CC Tryz.prog zo [x0,x1] (LP x0 x1):=cc Tryz.func270
def Pw (x0:AV):Prog:=.op (.call zo [x0,.fn Ae []]) fun a=>.op (.una .not a) fun a=>.fin [.val a]
theorem agj (x0:AV):CC Tryz.prog wJ [x0] (Pw x0):=cc Tryz.func202
end
def isT (k:Int) (v:bM):Bool:=decide (v.trace=k)
theorem agC {h:AH} {b:Nat} {k:Int} (a:At h b 0 [.int .i64 k]):Looks bM Tryz.prog h GX [.ptr b 0] (isT k):=by
 rintro x cs F ⟨rfl,rfl⟩
 refine reader (aar _ _) (by simp only[old]) ?_
 unfold Mf
 (repeat' first|refine vs ?_|(refine br ?_ ?_<;>first|exact bx|intro _)|fail)
 all_goals(refine pb ?_;simp[isT, *])
theorem LK {h:AH} {xs:List bM} {x0:AV} {F:List Nat} {f:FuncId} {caps:List AV} {p:bM→Bool} (r:au h x0 xs F) (hf:Looks bM Tryz.prog h f caps p):
  aN Tryz.prog wm [x0,.fn f caps] h (.int .i64 (idx p xs)):=
 reader (Zk _ _) (by simp only[old]) (Dk (w:=3) rfl r hf)
theorem abw {h:AH} {xs:List bM} {x0:AV} {F:List Nat} {k:Int} (r:au h x0 xs F):aN Tryz.prog Ac [x0,.int .i64 k] h (.int .i64 (idx (isT k) xs)):=by
 refine reader (acH _ _) (by simp only[old]) ?_
 unfold M0
 (repeat' first|refine vs ?_|((with_reducible refine aB wm ?_);refine aQ (LK ah (agC iF)) ?_)|fail)
 exact pi rfl
def cAt (xs:List bM) (i:Nat) (v:bM):Prop:=(1≤v.trace∧v.trace≤999)∧1≤v.stamp∧∀ j u,j < i→xs[j]? =some u→u.trace≠v.trace
def cOk (xs:List bM) (k:Int):Prop:=(∀ i v,xs[i]? =some v→cAt xs i v)∧(xs.length:Int)≤k
theorem ajo {xs:List bM} {i:Nat} {x:bM} (hx:xs[i]? =some x):idx (isT x.trace) xs=i↔∀ j u,j < i→xs[j]? =some u→u.trace≠x.trace:=by
 constructor
 ·intro h j u hj hu he
  unfold idx at h
  split at h
  ·have:j < xs.findIdx (isT x.trace):=by omega
   have:=List.not_of_lt_findIdx this
   have hj':=(List.getElem?_eq_some_iff.1 hu)
   rw[hj'.2] at this
   simp[isT,he] at this
  ·omega
 ·intro h
  exact rA hx (by simp[isT]) fun j u hj hu=>by simpa[isT] using h j u hj hu
theorem ae8 {h:AH} {xs:List bM} {x0:AV} {F:List Nat} {k:Int} (r:au h x0 xs F):aN Tryz.prog BX [x0,.int .i64 k] h (.bool (bp (cOk xs k))):=by
 refine reader (agz _ _) (by simp only[old]) ?_
 unfold PX
 have hsm:=r.small
 refine bQ r (aY xs.length (fun i vs h1=>vs=[.int .i64 (i:Int)]∧i≤xs.length∧Ext h h1∧bW xs (cAt xs) i) ⟨rfl,Nat.zero_le _,Ext.refl _,up0⟩ ?_)
 rintro i vs h1 _ ⟨rfl,hi,e1,hu⟩
 simp only[g0]
 refine br (fun hlt=>?_) (fun hge=>?_)
 ·obtain⟨x,hx,-,-⟩:=aR (show i < xs.length by omega)
  have hf:=ajo hx
  (repeat' first|refine vs ?_|(refine br ?_ ?_<;>first|exact bx|intro _)|((with_reducible refine aB bK ?_);(refine cK eY ?_ ?_<;>intro hb<;>(first|replace hb:=dx hb|replace hb:=dz hb)))|((with_reducible refine aB Ac ?_);refine aQ (abw ah) ?_)|((with_reducible refine aC ?_);((refine ix ?_);rintro _ _ _ _ _ ⟨rfl,rfl⟩ _))|fail)
  all_goals first
   |exact⟨by omega,rfl,by omega,aG,upS hu hx ⟨by omega,by omega,hf.1 (by assumption)⟩⟩
   |(refine pf fun k=>?_;obtain⟨a1,a2,a3⟩:=k.1 i x hx;first|omega|(have:=hf.2 a3;contradiction))
 ·rw[show i=xs.length by omega] at hu
  have hu:=iU hu
  (repeat' first|refine vs ?_|(refine br ?_ ?_<;>first|exact bx|intro _)|fail)
  all_goals first
   |exact pt ⟨hu,by omega⟩
   |exact pf fun k=>by have:=k.2;omega
theorem aey {h:AH} {xs:List bM} {x0:AV} {F:List Nat} {k:Int} (r:au h x0 xs F):aN Tryz.prog Bp [x0,.int .i64 k] h (.bool (bp (cOk xs k))):=by
 refine reader (afI _ _) (by simp only[old]) ?_
 unfold O1
 have hsm:=r.small
 refine aY xs.length (fun i vs h1=>∃ z,vs=[.int .i64 (i:Int),z]∧i≤xs.length∧h1=h∧bW xs (cAt xs) i) ⟨_,rfl,Nat.zero_le _,rfl,up0⟩ ?_
 rintro i vs h1 _ ⟨z,rfl,hi,rfl,hu⟩
 simp only[g0,g1]
 refine bQ r ?_
 refine br (fun hlt=>?_) (fun hge=>?_)
 ·obtain⟨x,hx,-,-⟩:=aR (show i < xs.length by omega)
  refine dH ?_
  (repeat' first|refine vs ?_|(refine br ?_ ?_<;>first|exact bx|intro _)|((with_reducible refine aB bP ?_);(refine cK fV ?_ ?_<;>intro hb<;>(first|replace hb:=dx hb|replace hb:=dz hb)))|((with_reducible refine aC ?_);((refine ix ?_);rintro _ _ _ _ _ ⟨rfl,rfl⟩ _))|fail)
  all_goals first
   |(refine pf fun k=>?_;obtain⟨a1,a2,a3⟩:=k.1 i x hx;omega)
   |skip
  refine aY i (fun j vs h4=>vs=[.int .i64 (j:Int)]∧j≤i∧h4=h1∧∀ (m:Nat) (y:bM),m < j→xs[m]? =some y→y.trace≠x.trace) ⟨rfl,Nat.zero_le _,rfl,fun m y hm=>by omega⟩ ?_
  rintro j vs h4 _ ⟨rfl,hj,rfl,hu4⟩
  simp only[g0]
  refine br (fun anE=>?_) (fun hge4=>?_)
  ·obtain⟨y,hy,-,-⟩:=aR (show j < xs.length by omega)
   (repeat' first|refine vs ?_|(refine br ?_ ?_<;>first|exact bx|intro _)|((with_reducible refine aC ?_);((refine ix ?_);rintro _ _ _ _ _ ⟨rfl,rfl⟩ _))|fail)
   ·rename_i he
    exact pf fun kk=>(kk.1 i x hx).2.2 j y (by omega) hy he
   ·rename_i he
    refine⟨by omega,rfl,by omega,rfl,fun m z hm hz=>?_⟩
    by_cases e:m=j
    ·subst e;rw[hy] at hz;cases hz;exact he
    ·exact hu4 m z (by omega) hz
  ·have e:j=i:=by omega
   subst e
   (repeat' first|refine vs ?_|fail)
   exact⟨by omega,_,rfl,by omega,rfl,upS hu hx ⟨by omega,by omega,hu4⟩⟩
 ·rw[show i=xs.length by omega] at hu
  have hu:=iU hu
  (repeat' first|refine vs ?_|(refine br ?_ ?_<;>first|exact bx|intro _)|fail)
  all_goals first
   |exact pt ⟨hu,by omega⟩
   |exact pf fun k=>by have:=k.2;omega
def gG (b:Bucket):Prop:=(0≤b.rate∧b.rate≤99)∧(0≤b.aW∧b.aW≤999)∧(0≤b.tokens∧b.tokens≤b.aW)∧(0≤b.at_∧b.at_≤2147483647)
theorem Ar {h:AH} {b:Bucket}:aN Tryz.prog mK [.agg b.cs] h (.bool (bp (gG b))):=by
 refine reader (aei _) (by simp only[old,Bucket.cs,olds,and_self]) ?_
 unfold Od
 (repeat' first|refine vs ?_|((with_reducible refine aB bK ?_);(refine cK eY ?_ ?_<;>intro hb<;>(first|replace hb:=dx hb|replace hb:=dz hb)))|fail)
 all_goals first
  |exact pt (by unfold gG;omega)
  |exact pf (by unfold gG;omega)
theorem Am {h:AH} {b:Bucket}:aN Tryz.prog mI [.agg b.cs] h (.bool (bp (gG b))):=by
 refine reader (adM _) (by simp only[old,Bucket.cs,olds,and_self]) ?_
 unfold ND
 (repeat' first|refine vs ?_|((with_reducible refine aB bP ?_);(refine cK fV ?_ ?_<;>intro hb<;>(first|replace hb:=dx hb|replace hb:=dz hb)))|fail)
 all_goals first
  |exact pt (by unfold gG;omega)
  |exact pf (by unfold gG;omega)
noncomputable def vK (x:Itm):Bool:=!bp (jq x)
theorem aiT {h:AH} {x:Itm} {v:AV} {F:List Nat} (ok:Cel.ok x.s) (hs:Sz.sz x.s≤67108864) (r:au h v x.s.attrs F):aN Tryz.prog Ae [.agg (x.cs v)] h (.bool (vK x)):=by
 refine reader (acL _) (by simp only[old]) ?_
 unfold M7
 (repeat' first|refine vs ?_|((with_reducible refine aB uj ?_);refine aQ (Qh ok hs ah) ?_)|fail)
 exact pb rfl
theorem ZA {h:AH} {xs:List Itm} {x0:AV} {F:List Nat} {f:FuncId} {caps:List AV} {p:Itm→Bool} (r:au h x0 xs F) (hf:nI Itm Tryz.prog h f caps xs p):
  aN Tryz.prog zx [x0,.fn f caps] h (.int .i64 (idx p xs)):=
 reader (ZH _ _) (by simp only[old]) (S9 (w:=7) rfl r hf)
theorem lZ {α:Type} {p:α→Bool} {xs:List α}:0≤idx p xs↔∃ x∈xs,p x=true:=by
 rcases uG p xs with⟨e,hn⟩|⟨i,x,e,hx,hp,-⟩
 ·constructor
  ·intro h;omega
  ·rintro⟨x,hx,hp⟩
   have:x∈xs.filter (fun y=>p y):=List.mem_filter.2 ⟨hx,hp⟩
   exact absurd hp (by simpa using(by simp_all))
 ·exact⟨fun _=>⟨x,List.mem_of_getElem? hx,hp⟩,fun _=>by omega⟩
theorem Zi {h:AH} {xs:List Itm} {x0:AV} {F:List Nat} {f:FuncId} {caps:List AV} {p:Itm→Bool} (r:au h x0 xs F) (hf:nI Itm Tryz.prog h f caps xs p):
  aN Tryz.prog zo [x0,.fn f caps] h (.bool (bp (∃ x∈xs,p x=true))):=by
 refine reader (Zm _ _) (by simp only[old]) ?_
 unfold LP
 (repeat' first|refine vs ?_|(refine br ?_ ?_<;>first|exact bx|intro _)|((with_reducible refine aB zx ?_);refine aQ (ZA ah hf) ?_)|fail)
 ·exact pt (lZ.1 (by assumption))
 ·exact pf fun k=>absurd (lZ.2 k) (by assumption)
theorem Ou {h:AH} {xs:List Itm} {x0:AV} {F:List Nat} (ok:∀ x∈xs,Cel.ok x) (hs:xs.length+szs xs≤67108864) (r:au h x0 xs F):aN Tryz.prog wJ [x0] h (.bool (bp (∀ x∈xs,jq x))):=by
 refine reader (agj _) (by simp only[old]) ?_
 unfold Pw
 have hl:nI Itm Tryz.prog h Ae [] xs vK:=by
  rintro x cs F hm ⟨v,rfl,rx⟩
  have hx:=bI hm
  have hx2:Sz.sz x=Sz.sz x.s:=rfl
  exact aiT (ok x hm).2 (by omega) rx
 (repeat' first|refine vs ?_|((with_reducible refine aB zo ?_);refine aQ (Zi ah hl) ?_)|fail)
 refine pb ?_
 by_cases e:∀ x∈xs,jq x
 ·have: ¬ ∃ x∈xs,vK x=true:=by
   rintro⟨x,hx,hp⟩
   simp[vK,eD (e x hx)] at hp
  rw[eD e,fU this];rfl
 ·suffices hh:∃ x∈xs,vK x=true by rw[fU e,eD hh];rfl
  have⟨x,hx⟩:=Classical.not_forall.1 e
  have⟨hm,hx⟩:=Classical.not_imp.1 hx
  exact⟨x,hm,by simp[vK,fU hx]⟩
end Go.Proofs.YtekfdoknfcedpaaGreat
end
section
set_option linter.unusedSimpArgs false
set_option linter.unusedVariables false
set_option maxHeartbeats 2000000
namespace Go.Proofs.YtekfdoknfcedpaaGreat
open Go Go.Ab
section
def Nb (x0:AV):Prog:=Ln 0 x0 fun a=>.loop [.aF,.int .i64 0] (fun b=>Bn .lss (g b 1) a fun a=>.ite a (Ix 1 x0 (g b 1) fun a=>.op (.ld1 a) fun a=>.op (.app 3 24 .aF a) fun a=>.op (.bE 1 1 [.aF] [(0,1,a)]) fun a=>.op (.app 1 24 (g b 0) a) fun a=>Bn .add (g b 1) (.int .i64 1) fun b=>.leaf 0 [a,b]) (.leaf 2 [g b 0,g b 1])) fun a b=>aA a 1 (.leaf 1 b) (aA a 2 (.fin [.val (g b 0)]) .bad)
theorem acQ (x0:AV):CC Tryz.prog Ah [x0] (Nb x0):=cc Tryz.func194 [3,6,7,8] (fun _=>[])
def OC (x0:AV):Prog:=.op (.bE 1 0 [] []) fun a=>.loop [a,.int .i64 0] (fun a=>Ln 0 x0 fun b=>Bn .lss (g a 1) b fun b=>.ite b (.op (.bE 3 0 [] []) fun b=>Ix 1 x0 (g a 1) fun c=>.op (.ld1 c) fun c=>.op (.app 3 24 b c) fun b=>.op (.bE 1 1 [.aF] [(0,1,b)]) fun b=>.op (.app 1 24 (g a 0) b) fun b=>Bn .add (g a 1) (.int .i64 1) fun a=>.leaf 0 [b,a]) (.leaf 2 [g a 0,g a 1])) fun a b=>aA a 1 (.leaf 1 b) (aA a 2 (.fin [.val (g b 0)]) .bad)
theorem afq (x0:AV):CC Tryz.prog Bb [x0] (OC x0):=cc Tryz.func171 [0,3,4] (fun _=>[])
end
theorem ME (xs:List (List Ab.Timer)) (hs:xs.length+szs xs≤67108864):dZ Tryz.prog Ah xs:=by
 intro v F h r
 refine acQ _ ?_
 unfold Nb
 have hsm:=r.small
 refine bQ r ?_
 refine aY xs.length (fun i vs h1=>∃ u G,vs=[u,.int .i64 (i:Int)]∧i≤xs.length∧Ext h h1∧au h1 u (xs.take i) G∧Own h.n h1 G) ⟨.aF,[],rfl,Nat.zero_le _,Ext.refl _,au.aF,Own.nil⟩ ?_
 rintro i vs h1 _ ⟨u,G,rfl,hi,e1,ru,ou⟩
 have n1:=e1.1
 simp only[g0,g1]
 refine br (fun hlt=>?_) (fun hge=>?_)
 ·obtain⟨x,hx,-,htk⟩:=aR (show i < xs.length by omega)
  have hm:=bI (List.mem_of_getElem? hx)
  have hx2:Sz.sz x=x.length+szs x:=rfl
  refine vs ?_
  refine bS r hx rfl ?_
  rintro b o _ Fi a ⟨vx,rfl,rx⟩ _
  (repeat' first|refine vs ?_|fail)
  refine app0 (n:=h1.n) (ys:=x) (ah:au h1 vx x Fi) (mW rx _) (Nat.le_refl _) rfl (by omega) ?_
  intro w2 h2 G2 e2 q2 o2
  have n2:=e2.1
  (repeat' first|refine vs ?_|fail)
  have hlen:(xs.take i).length=i:=by rw[List.length_take];omega
  refine app1 (n:=h.n) (xs:=xs.take i) (Fx:=G) (a:=x) ah ⟨_,rfl,q2⟩ (fA (bJ) o2 (by omega) iw) aP rfl ?_ ?_ ?_
  ·rw[hlen];omega
  ·rw[hlen];omega
  intro u' h' F' ek kp r' o'
  (repeat' first|refine vs ?_|fail)
  exact⟨by omega,u',F',rfl,by omega,ek h aG (Nat.le_refl _),by rw[htk];exact r',o'⟩
 ·(repeat' first|refine vs ?_|fail)
  exact⟨rfl,u,rfl,e1,G,by rw[show i=xs.length by omega,List.take_length] at ru;exact ru,ou⟩
theorem Og (xs:List (List Ab.Timer)) (hs:xs.length+szs xs≤67108864):dZ Tryz.prog Bb xs:=by
 intro v F h r
 refine afq _ ?_
 unfold OC
 have hsm:=r.small
 obtain⟨re,oe⟩:=gF (h:=h) (α:=List Ab.Timer) (w:=1) rfl
 refine vs ?_
 refine aY xs.length (fun i vs h1=>∃ u G,vs=[u,.int .i64 (i:Int)]∧i≤xs.length∧Ext h h1∧au h1 u (xs.take i) G∧Own h.n h1 G) ⟨_,_,rfl,Nat.zero_le _,(Ext.refl _).push _,by rw[List.take_zero];exact re,oe _ (Nat.le_refl _)⟩ ?_
 rintro i vs h1 _ ⟨u,G,rfl,hi,e1,ru,ou⟩
 have n1:=e1.1
 simp only[g0,g1]
 refine bQ r ?_
 refine br (fun hlt=>?_) (fun hge=>?_)
 ·obtain⟨x,hx,-,htk⟩:=aR (show i < xs.length by omega)
  have hm:=bI (List.mem_of_getElem? hx)
  have hx2:Sz.sz x=x.length+szs x:=rfl
  refine vs ?_
  refine bS r hx rfl ?_
  rintro b o _ Fi a ⟨vx,rfl,rx⟩ _
  (repeat' first|refine vs ?_|fail)
  refine GA (h:=h1) (n:=h1.n) (ys:=x) (ah:au h1 vx x Fi) (mW rx _) (Nat.le_refl _) rfl (by omega) ?_
  intro w2 h2 G2 e2 q2 o2
  have n2:=e2.1
  (repeat' first|refine vs ?_|fail)
  have hlen:(xs.take i).length=i:=by rw[List.length_take];omega
  refine app1 (n:=h.n) (xs:=xs.take i) (Fx:=G) (a:=x) ah ⟨_,rfl,q2⟩ (fA (bJ) o2 (by omega) iw) aP rfl ?_ ?_ ?_
  ·rw[hlen];omega
  ·rw[hlen];omega
  intro u' h' F' ek kp r' o'
  (repeat' first|refine vs ?_|fail)
  exact⟨by omega,u',F',rfl,by omega,ek h aG (Nat.le_refl _),by rw[htk];exact r',o'⟩
 ·(repeat' first|refine vs ?_|fail)
  exact⟨rfl,u,rfl,e1,G,by rw[show i=xs.length by omega,List.take_length] at ru;exact ru,ou⟩
end Go.Proofs.YtekfdoknfcedpaaGreat
end
section
set_option linter.unusedSimpArgs false
set_option linter.unusedVariables false
set_option maxHeartbeats 2000000
namespace Go.Proofs.YtekfdoknfcedpaaGreat
open Go Go.Ab
section
def M9 (x0:AV):Prog:=.op (.box x0) fun a=>.op (.alloc [.int .i64 0,.aF,.aF,.aF]) fun b=>.op (.fad 0 a) fun c=>.op (.ld1 c) fun d=>Lg 1 a fun e=>.op (.fad 2 a) fun f=>.op (.ld1 f) fun i=>.op (.fad 3 a) fun a=>.op (.ld1 a) fun j=>Cl Ah [e] fun e=>.chk (.ld1 c) d (.chk (.ld1 f) i (.chk (.ld1 a) j (Cl Ah [i] fun f=>.chk (.ld1 c) d (.chk (.ld1 a) j (.op (.app 3 24 .aF j) fun a=>.chk (.ld1 c) d (.op (.build [.int .i64 0,.aF,.aF,.aF] [(0,1,d),(1,1,e),(2,1,f),(3,1,a)]) fun a=>.op (.st 4 b a) fun _=>.fin [.cn 4 b]))))))
theorem acN (x0:AV):CC Tryz.prog Ie [x0] (M9 x0):=cc Tryz.func121 [] (fun r=>if r=1 then[(0,[]),(1,[]),(2,[]),(3,[]),(5,[]),(6,[]),(8,[]),(9,[]),(4,[1,6,9]),(7,[1,9]),(10,[1]),(11,[]),(12,[])] else[])
end
theorem abz (x:dN) (hs:Sz.sz x≤67108864):dA dN Tryz.prog Ie x:=by
 rintro cs F h ⟨v0,v1,v2,F0,F1,F2,rfl,rfl,r0,r1,r2⟩
 have hsz:Sz.sz x=(x.near.length+szs x.near)+(x.far.length+szs x.far)+(x.rest.length+szs x.rest):=rfl
 refine acN _ ?_
 unfold M9
 (repeat' first|refine vs ?_|fail)
 refine aT (ME x.near (by omega) _ _ _ ah) ?_
 rintro w1 h1 ⟨e1,G1,q1,o1⟩
 have n1:=e1.1
 (try simp only[aO,aV] at n1)
 (repeat' first|refine vs ?_|fail)
 refine aT (ME x.far (by omega) _ _ _ ah) ?_
 rintro w2 h2 ⟨e2,G2,q2,o2⟩
 have n2:=e2.1
 (repeat' first|refine vs ?_|fail)
 refine app0 (ys:=x.rest) (ah:au _ v2 x.rest F2) (mW r2 _) (Nat.le_refl _) rfl (by omega) ?_
 intro w3 h3 G3 e3 q3 o3
 have n3:=e3.1
 (repeat' first|refine vs ?_|fail)
 exact⟨rfl,_,rfl,aG,_,_,rfl,⟨_,_,_,_,_,_,rfl,rfl,ah,ah,ah⟩,(dh bU (dh bU bU dD) dD).1⟩
end Go.Proofs.YtekfdoknfcedpaaGreat
end
section
set_option linter.unusedSimpArgs false
set_option linter.unusedVariables false
set_option maxHeartbeats 2000000
namespace Go.Proofs.YtekfdoknfcedpaaGreat
open Go Go.Ab
section
def Px (x0:AV):Prog:=.op (.box x0) fun a=>.op (.alloc jL) fun b=>Ld 5 a fun c=>.op (.alloc jL) fun d=>.op (.st 5 d c) fun _=>Sg 4 d .aF fun _=>Lg 4 a fun a=>Ln 0 a fun c=>.loop [.int .i64 0] (fun b=>Bn .lss (g b 0) c fun c=>.ite c (Ix 5 a (g b 0) fun a=>Ld 5 a fun a=>.op (.alloc jL) fun c=>.op (.st 5 c a) fun _=>.op (.fad 4 d) fun a=>.op (.ld1 a) fun e=>Ld 5 c fun c=>Cl tQ [c] fun c=>.chk (.ld1 a) e (.op (.bE 5 1 jL [(0,5,c)]) fun a=>.op (.app 5 72 e a) fun a=>Sg 4 d a fun _=>Bn .add (g b 0) (.int .i64 1) fun a=>.leaf 0 [a])) (.leaf 2 [g b 0])) fun a c=>aA a 1 (.leaf 1 c) (aA a 2 (Ld 5 d fun a=>.op (.st 5 b a) fun _=>.fin [.cn 5 b]) .bad)
theorem agk (x0:AV):CC Tryz.prog tQ [x0] (Px x0):=cc Tryz.func192 [2,3,9,10,11] (fun r=>if r=6 then[(0,[]),(1,[]),(2,[]),(3,[1]),(4,[]),(5,[]),(6,[]),(7,[])] else[])
def Qn (x0:AV):Prog:=.op (.box x0) fun a=>.op (.alloc jL) fun b=>Ld 5 a fun c=>.op (.alloc jL) fun d=>.op (.st 5 d c) fun _=>.op (.bE 5 0 [] []) fun c=>Sg 4 d c fun _=>.loop [.int .i64 0] (fun b=>Lg 4 a fun c=>Ln 0 c fun c=>Bn .lss (g b 0) c fun c=>.ite c (Lg 4 a fun a=>Ix 5 a (g b 0) fun a=>Ld 5 a fun a=>Cl tZ [a] fun a=>.op (.alloc jL) fun c=>.op (.st 5 c a) fun _=>Lg 4 d fun a=>Ld 5 c fun c=>.op (.bE 5 1 jL [(0,5,c)]) fun c=>.op (.app 5 72 a c) fun a=>Sg 4 d a fun _=>Bn .add (g b 0) (.int .i64 1) fun a=>.leaf 0 [a]) (.leaf 2 [g b 0])) fun a c=>aA a 1 (.leaf 1 c) (aA a 2 (Ld 5 d fun a=>.op (.st 5 b a) fun _=>.fin [.cn 5 b]) .bad)
theorem ahr (x0:AV):CC Tryz.prog tZ [x0] (Qn x0):=cc Tryz.func169 [1,2,3,4] (fun _=>[])
def NZ (x0:AV):Prog:=.op (.box x0) fun a=>.op (.alloc uW) fun b=>.op (.fad 7 a) fun c=>Ld 5 c fun c=>Cl tQ [c] fun c=>.op (.fad 7 a) fun d=>.op (.st 5 d c) fun _=>Ld 12 a fun a=>.op (.st 12 b a) fun _=>.fin [.cn 12 b]
theorem aeb (x0:AV):CC Tryz.prog IE [x0] (NZ x0):=cc Tryz.func119
def OL (x0:AV):Prog:=.op (.box x0) fun a=>.op (.alloc uW) fun b=>Ld 12 a fun c=>.op (.alloc uW) fun d=>.op (.st 12 d c) fun _=>.op (.fad 7 a) fun a=>Ld 5 a fun a=>Cl tZ [a] fun a=>.op (.alloc jL) fun c=>.op (.st 5 c a) fun _=>Ld 5 c fun a=>.op (.fad 7 d) fun c=>.op (.st 5 c a) fun _=>Ld 12 d fun a=>.op (.st 12 b a) fun _=>.fin [.cn 12 b]
theorem afx (x0:AV):CC Tryz.prog IU [x0] (OL x0):=cc Tryz.func91
end
theorem ae0 (x:Pol):Sz.sz x≤67108864→dA Pol Tryz.prog tQ x:=by
 refine iB (p:=fun x=>Sz.sz x≤67108864→dA Pol Tryz.prog tQ x) ?_ x
 intro x ih hs cs F h r
 rw[Pol.nJ] at hs
 rw[Pol.bX] at r
 obtain⟨v0,rfl,r0⟩:=r
 have hsm:=r0.small
 refine agk _ ?_
 unfold Px
 (repeat' first|refine vs ?_|fail)
 refine aY x.l.length (fun i vs h1=>∃ u G,vs=[.int .i64 (i:Int)]∧i≤x.l.length∧Bk h1 (h.n+1+1) [.int .i64 x.kind,.int .i64 x.n,.str x.key,.str x.text,u] 0∧Bk h1 (h.n+1) [AV.int .i64 0,AV.int .i64 0,AV.str ⟨#[]⟩,AV.str ⟨#[]⟩,AV.aF] 0∧Ext h h1∧h.n+1+1+1≤h1.n∧au h1 u (x.l.take i) G∧Own (h.n+1+1+1) h1 G) ?_ ?_
 ·exact⟨.aF,[],rfl,Nat.zero_le _,bA,bA,aG,by simp only[aO,aV];omega,au.aF,Own.nil⟩
 rintro i vs h1 _ ⟨u,G,rfl,hi,b2,b1,e1,m1,ru,ou⟩
 simp only[g0,g1]
 refine br (fun hlt=>?_) (fun hge=>?_)
 ·obtain⟨y,hy,-,htk⟩:=aR (show i < x.l.length by omega)
  have hm:=bI (List.mem_of_getElem? hy)
  have c:=ih y (List.mem_of_getElem? hy) (by omega)
  refine vs ?_
  refine bS r0 hy rfl ?_
  rintro b o cy Fi a ry _
  rw[Pol.bX] at ry
  obtain⟨vy,rfl,ry⟩:=ry
  (repeat' first|refine vs ?_|fail)
  refine aT (c _ _ _ (Pol.bX.2 ⟨_,rfl,ah⟩)) ?_
  rintro _ h2 ⟨e2,_,G2,rfl,r2,o2⟩
  rw[Pol.bX] at r2
  obtain⟨w2,rfl,q2⟩:=r2
  have n2:=e2.1
  (try simp only[aO,aV] at n2)
  (repeat' first|refine vs ?_|fail)
  have hlen:(x.l.take i).length=i:=by rw[List.length_take];omega
  refine app1 (n:=h.n+1+1+1) (xs:=x.l.take i) (Fx:=G) (a:=y) ah (Pol.bX.2 ⟨_,rfl,q2⟩) (fA (bJ) o2 (by simp only[aO];omega) iw) aP rfl ?_ ?_ ?_
  ·rw[hlen];omega
  ·rw[hlen];omega
  intro u' h' F' ek kp r' o'
  have n3:=kp.1
  (try simp only[aO,aV] at n3)
  (repeat' first|refine vs ?_|fail)
  exact⟨by omega,u',F',rfl,by omega,bA,bA,(ek h aG (by omega)).upd (by(try simp only[aO,aV]);omega) _,by simp only[aV];omega,by rw[htk];exact ah,bJ⟩
 ·have hlen:i=x.l.length:=by omega
  subst hlen
  rw[List.take_length] at ru
  (repeat' first|refine vs ?_|fail)
  exact⟨rfl,_,rfl,aG,_,_,rfl,Pol.bX.2 ⟨_,rfl,ah⟩,(bJ:Own (h.n+1+1+1) _ _).mono (by omega) fun _ _=>rfl⟩
theorem agF (x:Pol):Sz.sz x≤67108864→dA Pol Tryz.prog tZ x:=by
 refine iB (p:=fun x=>Sz.sz x≤67108864→dA Pol Tryz.prog tZ x) ?_ x
 intro x ih hs cs F h r
 rw[Pol.nJ] at hs
 rw[Pol.bX] at r
 obtain⟨v0,rfl,r0⟩:=r
 have hsm:=r0.small
 refine ahr _ ?_
 unfold Qn
 (repeat' first|refine vs ?_|fail)
 refine aY x.l.length (fun i vs h1=>∃ u G,vs=[.int .i64 (i:Int)]∧i≤x.l.length∧Bk h1 h.n (x.cs v0) 0∧Bk h1 (h.n+1+1) [.int .i64 x.kind,.int .i64 x.n,.str x.key,.str x.text,u] 0∧Bk h1 (h.n+1) [AV.int .i64 0,AV.int .i64 0,AV.str ⟨#[]⟩,AV.str ⟨#[]⟩,AV.aF] 0∧Ext h h1∧h.n+1+1+1≤h1.n∧au h1 u (x.l.take i) G∧Own (h.n+1+1+1) h1 G) ?_ ?_
 ·refine⟨_,[h.n+1+1+1],rfl,Nat.zero_le _,bA,bA,bA,aG,by simp only[aO,aV];omega,?_,?_⟩
  ·exact(gF (α:=Pol) (w:=5) rfl).1
  ·exact(gF (α:=Pol) (w:=5) rfl).2 _ (by simp only[aO];omega)
 rintro i vs h1 _ ⟨u,G,rfl,hi,b0,b2,b1,e1,m1,ru,ou⟩
 simp only[g0,g1]
 refine vs ?_
 refine br (fun hlt=>?_) (fun hge=>?_)
 ·obtain⟨y,hy,-,htk⟩:=aR (show i < x.l.length by omega)
  have hm:=bI (List.mem_of_getElem? hy)
  have c:=ih y (List.mem_of_getElem? hy) (by omega)
  refine vs ?_
  refine bS r0 hy rfl ?_
  rintro b o cy Fi a ry _
  rw[Pol.bX] at ry
  obtain⟨vy,rfl,ry⟩:=ry
  (repeat' first|refine vs ?_|fail)
  refine aT (c _ _ _ (Pol.bX.2 ⟨_,rfl,ah⟩)) ?_
  rintro _ h2 ⟨e2,_,G2,rfl,r2,o2⟩
  rw[Pol.bX] at r2
  obtain⟨w2,rfl,q2⟩:=r2
  have n2:=e2.1
  (try simp only[aO,aV] at n2)
  (repeat' first|refine vs ?_|fail)
  have hlen:(x.l.take i).length=i:=by rw[List.length_take];omega
  refine app1 (n:=h.n+1+1+1) (xs:=x.l.take i) (Fx:=G) (a:=y) ah (Pol.bX.2 ⟨_,rfl,ah⟩) (fA (bJ) (bJ:Own h1.n _ G2) (by omega) iw) aP rfl ?_ ?_ ?_
  ·rw[hlen];omega
  ·rw[hlen];omega
  intro u' h' F' ek kp r' o'
  have n3:=kp.1
  (try simp only[aO,aV] at n3)
  (repeat' first|refine vs ?_|fail)
  exact⟨by omega,u',F',rfl,by omega,bA,bA,bA,(ek h aG (by omega)).upd (by(try simp only[aO,aV]);omega) _,by simp only[aV];omega,by rw[htk];exact ah,bJ⟩
 ·have hlen:i=x.l.length:=by omega
  subst hlen
  rw[List.take_length] at ru
  (repeat' first|refine vs ?_|fail)
  exact⟨rfl,_,rfl,aG,_,_,rfl,Pol.bX.2 ⟨_,rfl,ah⟩,(bJ:Own (h.n+1+1+1) _ _).mono (by omega) fun _ _=>rfl⟩
theorem adp (x:fF) (hs:Sz.sz x≤67108864):dA fF Tryz.prog IE x:=by
 rintro cs F h ⟨v0,rfl,r0⟩
 have hx2:Sz.sz x=Sz.sz x.rule:=rfl
 refine aeb _ ?_
 unfold NZ
 (repeat' first|refine vs ?_|((with_reducible refine aB tQ ?_);(refine aT (ae0 x.rule (by omega) _ _ _ (Pol.bX.2 ⟨_,rfl,ah⟩)) ?_;rintro _ h2 ⟨e2,_,G2,rfl,r2,o2⟩;rw[Pol.bX] at r2;obtain⟨w2,rfl,q2⟩:=r2;have n2:=e2.1;(try simp only[aO,aV] at n2)))|fail)
 exact⟨rfl,_,rfl,aG,_,_,rfl,⟨_,rfl,ah⟩,bJ⟩
theorem aer (x:fF) (hs:Sz.sz x≤67108864):dA fF Tryz.prog IU x:=by
 rintro cs F h ⟨v0,rfl,r0⟩
 have hx2:Sz.sz x=Sz.sz x.rule:=rfl
 refine afx _ ?_
 unfold OL
 (repeat' first|refine vs ?_|((with_reducible refine aB tZ ?_);(refine aT (agF x.rule (by omega) _ _ _ (Pol.bX.2 ⟨_,rfl,ah⟩)) ?_;rintro _ h2 ⟨e2,_,G2,rfl,r2,o2⟩;rw[Pol.bX] at r2;obtain⟨w2,rfl,q2⟩:=r2;have n2:=e2.1;(try simp only[aO,aV] at n2)))|fail)
 exact⟨rfl,_,rfl,aG,_,_,rfl,⟨_,rfl,ah⟩,bJ⟩
end Go.Proofs.YtekfdoknfcedpaaGreat
end
section
set_option linter.unusedSimpArgs false
set_option linter.unusedVariables false
set_option maxHeartbeats 2000000
namespace Go.Proofs.YtekfdoknfcedpaaGreat
open Go Go.Ab
section
def Qk (x0:AV):Prog:=.op (.box x0) fun a=>.op (.alloc [.int .i64 0,.aF,.aF,.aF]) fun b=>.op (.fad 0 a) fun c=>.op (.ld1 c) fun d=>Lg 1 a fun e=>.op (.fad 2 a) fun f=>.op (.ld1 f) fun i=>.op (.bE 3 0 [] []) fun j=>.op (.fad 3 a) fun a=>.op (.ld1 a) fun k=>Cl Bb [e] fun e=>.chk (.ld1 c) d (.chk (.ld1 f) i (.chk (.bE 3 0 [] []) j (.chk (.ld1 a) k (Cl Bb [i] fun f=>.chk (.ld1 c) d (.chk (.bE 3 0 [] []) j (.chk (.ld1 a) k (.op (.app 3 24 j k) fun a=>.chk (.ld1 c) d (.op (.build [.int .i64 0,.aF,.aF,.aF] [(0,1,d),(1,1,e),(2,1,f),(3,1,a)]) fun a=>.op (.st 4 b a) fun _=>.fin [.cn 4 b]))))))))
theorem aho (x0:AV):CC Tryz.prog Ji [x0] (Qk x0):=cc Tryz.func93 [] (fun r=>if r=1 then[(0,[]),(1,[]),(2,[]),(3,[]),(5,[]),(6,[]),(8,[]),(9,[]),(10,[]),(4,[1,6,8,10]),(7,[1,8,10]),(11,[1]),(12,[]),(13,[])] else[])
end
theorem agD (x:dN) (hs:Sz.sz x≤67108864):dA dN Tryz.prog Ji x:=by
 rintro cs F h ⟨v0,v1,v2,F0,F1,F2,rfl,rfl,r0,r1,r2⟩
 have hsz:Sz.sz x=(x.near.length+szs x.near)+(x.far.length+szs x.far)+(x.rest.length+szs x.rest):=rfl
 refine aho _ ?_
 unfold Qk
 (repeat' first|refine vs ?_|fail)
 obtain⟨re,oe⟩:=gF (h:=(h.push ⟨x.cs v0 v1 v2,0,0⟩).push ⟨[AV.int .i64 0,AV.aF,AV.aF,AV.aF],0,0⟩) (α:=Ab.Timer) (w:=3) rfl
 have oe:=oe (h.n+1+1) (by simp)
 obtain⟨H,hH⟩:∃ H,H=(((h.push ⟨x.cs v0 v1 v2,0,0⟩).push ⟨[AV.int .i64 0,AV.aF,AV.aF,AV.aF],0,0⟩).push ⟨[],3,0⟩):=⟨_,rfl⟩
 have nH:H.n=h.n+1+1+1:=by rw[hH];rfl
 have eH:Ext h H:=by rw[hH];exact((Ext.refl h).push _).push _ |>.push _
 have bx:Bk H h.n (x.cs v0 v1 v2) 0:=by rw[hH];exact bA
 have bo:Bk H (h.n+1) [AV.int .i64 0,AV.aF,AV.aF,AV.aF] 0:=by rw[hH];exact bA
 have be:Bk H (h.n+1+1) [] 3:=by rw[hH];exact iE
 rw[←hH] at re oe
 have hH':=hH.symm
 simp only[aO] at hH' re oe
 clear hH
 try rw[hH']
 clear hH'
 have r0:=r0.ext eH
 have r1:=r1.ext eH
 have r2:=r2.ext eH
 refine aT (Og x.near (by omega) _ _ _ r0) ?_
 rintro w1 h1 ⟨e1,G1,q1,o1⟩
 have n1:=e1.1
 have bx1:=fK e1 bx
 have be1:=fK e1 be
 have r2:=r2.ext e1
 have r1:=r1.ext e1
 (repeat' first|refine vs ?_|((with_reducible refine Vw ?_);refine Vh (by assumption) (by rfl) (by decide) (by rfl) ?_)|fail)
 refine aT (Og x.far (by omega) _ _ _ r1) ?_
 rintro w2 h2 ⟨e2,G2,q2,o2⟩
 have n2:=e2.1
 have bx2:=fK e2 bx1
 have be2:=fK e2 be1
 have r2:=r2.ext e2
 have re:=(re.ext e1).ext e2
 have oe:=(kg e2 (kg e1 ⟨oe,(fun c hc=>by rw[List.mem_singleton.1 hc,nH];omega:∀ c∈[h.n+1+1],c < H.n)⟩)).1
 (repeat' first|refine vs ?_|((with_reducible refine Vw ?_);refine Vh (by assumption) (by rfl) (by decide) (by rfl) ?_)|fail)
 refine amW (n:=h.n+1+1) (xs:=([]:List Ab.Timer)) (ys:=x.rest) re r2 oe (by omega) rfl (by simp;omega) (by simp;omega) ?_
 rintro w3 h3 G3 k3 q3 o3 m3
 have n3:=k3.1
 have bx3:=bR k3 bx2 (by simp only[List.mem_singleton];omega)
 have bo3:=bR k3 (fK e2 (fK e1 bo)) (by simp only[List.mem_singleton];omega)
 have d1:∀ c∈G1,c ∉ [h.n+1+1]:=fun c hc hX=>by have:=(o1.2 c hc).1;have:=List.mem_singleton.1 hX;omega
 have d2:∀ c∈G2,c ∉ [h.n+1+1]:=fun c hc hX=>by have:=(o2.2 c hc).1;have:=List.mem_singleton.1 hX;omega
 have l1:=q1.lt
 have l2:=q2.lt
 have o1':=bC k3 (kg e2 ⟨o1,l1⟩) d1
 have o2':=bC k3 ⟨o2,l2⟩ d2
 have q1':=aI k3 (q1.ext e2) d1
 have q2':=aI k3 q2 d2
 have eT:Ext h h3:=Kp.ext (eH.trans (e1.trans e2)) k3 fun c hc=>by rw[List.mem_singleton.1 hc];omega
 have q3':au h3 w3 x.rest G3:=q3
 (repeat' first|refine vs ?_|fail)
 refine⟨rfl,_,rfl,eT.upd (by simp only[aO];omega) _,_,G1++(G2++G3),rfl,⟨_,_,_,_,_,_,rfl,rfl,?_,?_,?_⟩,?_⟩
 ·refine jH q1' fun hm=>?_
  have:=(o1.2 _ hm).1;simp only[aO] at this;omega
 ·refine jH q2' fun hm=>?_
  have:=(o2.2 _ hm).1;simp only[aO] at this;omega
 ·refine jH q3' fun hm=>?_
  rcases m3 _ hm with q|q
  ·have:=List.mem_singleton.1 q;simp only[aO] at this;omega
  ·simp only[aO] at q;omega
 ·have oo:cO (h.n+1+1) h3 (G1++(G2++G3)):=dh ⟨o1'.1.mono (by omega) fun _ _=>rfl,o1'.2⟩ (dh ⟨o2'.1.mono (by omega) fun _ _=>rfl,o2'.2⟩ ⟨o3,q3.lt⟩ fun c hc hm=>by
   rcases m3 c hm with q|q
   ·exact d2 c hc q
   ·have:=l2 c hc;omega) fun c hc hm=>by
   rcases List.mem_append.1 hm with hm|hm
   ·have:=l1 c hc;have:=(o2.2 c hm).1;omega
   ·rcases m3 c hm with q|q
    ·exact d1 c hc q
    ·have:=l1 c hc;omega
  refine(j6 oo fun hm=>?_).1.mono (by omega) fun _ _=>rfl
  have:=(oo.1.2 _ hm).1;simp only[aO] at this;omega
end Go.Proofs.YtekfdoknfcedpaaGreat
end
section
set_option linter.unusedSimpArgs false
set_option linter.unusedVariables false
set_option maxHeartbeats 2000000
namespace Go.Proofs.YtekfdoknfcedpaaGreat
open Go Go.Ab
section
def Ms (x0 x1:AV):Prog:=.op (.box x0) fun a=>Lg 0 a fun a=>Lg 0 x1 fun b=>Bn .eql a b fun a=>.fin [.val a]
theorem aa5 (x0 x1:AV):CC Tryz.prog Ho [x0,x1] (Ms x0 x1):=cc Tryz.func294
def Ze (x0 x1:AV):Prog:=Cl wm [x0,x1] fun a=>.op (.bin 0 .eql a (.int .i64 (-1))) fun b=>.ite b (.fin [.val x0]) (Bn .add a (.int .i64 1) fun b=>.loop [a,b] (fun a=>Ln 0 x0 fun b=>Bn .lss (g a 1) b fun b=>.ite b (Ix 3 x0 (g a 1) fun b=>Ld 3 b fun b=>.op (.alloc [.int .i64 0,.int .i64 0,.bool false]) fun c=>.op (.st 3 c b) fun _=>Ld 3 c fun b=>.op (.fE x1 [b]) fun b=>.op (.una .not b) fun b=>.scope (.ite b (Ld 3 c fun b=>Ix 3 x0 (g a 0) fun c=>.op (.st 3 c b) fun _=>Bn .add (g a 0) (.int .i64 1) fun a=>.leaf 0 [a]) (.leaf 0 [g a 0])) (fun b=>Bn .add (g a 1) (.int .i64 1) fun a=>.leaf 0 [g b 0,a]) fun a b=>aA a 1 (.leaf 1 b) .bad) (.leaf 2 [g a 0,g a 1])) fun a b=>aA a 1 (.leaf 1 b) (aA a 2 (.op (.slc 3 x0 (some (g b 0)) none none) fun a=>.op (.clr 3 [.int .i64 0,.int .i64 0,.bool false] a) fun _=>.op (.slc 3 x0 none (some (g b 0)) none) fun a=>.fin [.val a]) .bad))
theorem Zf (x0 x1:AV):CC Tryz.prog GJ [x0,x1] (Ze x0 x1):=cc Tryz.func293 [0,1,5,6] (fun _=>[])
def Oa (x0 x1 x2:AV):Prog:=.op (.box x1) fun a=>.op (.app 3 24 .aF x0) fun b=>Bn .lss x2 (.int .i64 1) fun c=>.ite c (.fin [.val b,.val (.int .i64 0)]) (.op (.jC Ho [a]) fun c=>Cl GJ [b,c] fun b=>Ld 3 a fun a=>.op (.bE 3 1 [.int .i64 0,.int .i64 0,.bool false] [(0,3,a)]) fun a=>.op (.app 3 24 b a) fun a=>.loop [a,.int .i64 0] (fun a=>Ln 0 (g a 0) fun b=>Bn .gtr b x2 fun b=>.ite b (Ix 3 (g a 0) (.int .i64 0) fun b=>Lg 0 b fun b=>.op (.slc 3 (g a 0) (some (.int .i64 1)) none none) fun a=>.leaf 0 [a,b]) (.leaf 2 [g a 0,g a 1])) fun a b=>aA a 1 (.leaf 1 b) (aA a 2 (.fin [.val (g b 0),.val (g b 1)]) .bad))
theorem aef (x0 x1 x2:AV):CC Tryz.prog IG [x0,x1,x2] (Oa x0 x1 x2):=cc Tryz.func223 [2,8,9] (fun _=>[])
def Ny (x0 x1 x2:AV):Prog:=.op (.box x1) fun a=>Bn .lss x2 (.int .i64 1) fun b=>.ite b (.op (.bE 3 0 [] []) fun a=>.op (.app 3 24 a x0) fun a=>.fin [.val a,.val (.int .i64 0)]) (.op (.bE 3 0 [] []) fun b=>.loop [b,.int .i64 0] (fun b=>Ln 0 x0 fun c=>Bn .lss (g b 1) c fun c=>.ite c (Ix 3 x0 (g b 1) fun c=>Lg 0 c fun c=>Lg 0 a fun a=>Bn .neq c a fun a=>.scope (.ite a (Ix 3 x0 (g b 1) fun a=>Ld 3 a fun a=>.op (.bE 3 1 [.int .i64 0,.int .i64 0,.bool false] [(0,3,a)]) fun a=>.op (.app 3 24 (g b 0) a) fun a=>.leaf 0 [a]) (.leaf 0 [g b 0])) (fun a=>Bn .add (g b 1) (.int .i64 1) fun b=>.leaf 0 [g a 0,b]) fun a b=>aA a 1 (.leaf 1 b) .bad) (.leaf 2 [g b 0,g b 1])) fun b c=>aA b 1 (.leaf 1 c) (aA b 2 (Ld 3 a fun a=>.op (.bE 3 1 [.int .i64 0,.int .i64 0,.bool false] [(0,3,a)]) fun a=>.op (.app 3 24 (g c 0) a) fun a=>.loop [a,.int .i64 0] (fun a=>Ln 0 (g a 0) fun b=>Bn .gtr b x2 fun b=>.ite b (Ix 3 (g a 0) (.int .i64 0) fun b=>Lg 0 b fun b=>.op (.bE 3 0 [] []) fun c=>.op (.slc 3 (g a 0) (some (.int .i64 1)) none none) fun a=>.op (.app 3 24 c a) fun a=>.leaf 0 [a,b]) (.leaf 4 [g a 0,g a 1])) fun a b=>aA a 1 (.leaf 1 b) (aA a 4 (.fin [.val (g b 0),.val (g b 1)]) .bad)) .bad))
theorem adI (x0 x1 x2:AV):CC Tryz.prog Iu [x0,x1,x2] (Ny x0 x1 x2):=cc Tryz.func264 [0,2,4,8,9,10] (fun r=>if r=7 then[(0,[]),(1,[]),(2,[]),(3,[]),(4,[]),(5,[]),(6,[]),(7,[])] else[])
end
theorem JL {α:Type} [Flat α] {h:AH} {v:AV} {xs:List α} {F:List Nat} (r:au h v xs F):F.tail=[]:=by
 rcases r.flat with⟨_,_,rfl⟩|⟨b,_,_,_,rfl,_⟩<;>rfl
def dY (xs:List bM) (v:bM):List bM:=(xs.filter fun x=>!isT v.trace x)++[v]
def gone (l:List bM) (d:Nat):Int:=match d with
 |0=>0
 |d+1=>match l[d]? with
  |some v=>v.trace
  |none=>0
def rem (xs:List bM) (v:bM) (most:Int):List bM × Int:=
 if most < 1 then(xs,0) else((dY xs v).drop ((dY xs v).length - most.toNat),gone (dY xs v) ((dY xs v).length - most.toNat))
theorem aaC {h:AH} {b:Nat} {v:bM} (a:At h b 0 v.cs):Looks bM Tryz.prog h Ho [.ptr b 0] (isT v.trace):=by
 rintro x cs F ⟨rfl,rfl⟩
 refine reader (aa5 _ _) (by simp only[old]) ?_
 unfold Ms
 refine kV rfl ?_
 (repeat' first|refine vs ?_|(refine br ?_ ?_<;>first|exact bx|intro _)|fail)
 all_goals(refine⟨rfl,?_,aG⟩;simp[isT, *])
theorem Zc {h:AH} {n:Nat} {xs:List bM} {x0:AV} {F:List Nat} {f:FuncId} {caps:List AV} {p:bM→Bool} (r:au h x0 xs F) (o:Own n h F) (hf:∀ h',Kp h h' F→Looks bM Tryz.prog h' f caps p):
  cZ Tryz.prog GJ [x0,.fn f caps] h fun u h'=>Kp h h' F∧au h' u (xs.filter fun x=>!p x) F∧Own n h' F:=
 Zf _ _ (aj4 (w:=3) rfl rfl r o (LK r (hf h (Kp.refl _ _))) hf)
theorem Te {l:List bM} {d:Nat} {x:bM} (hx:l[d]? =some x):gone l (d+1)=x.trace:=by simp[gone,hx]
theorem adr {h:AH} {xs:List bM} {x0:AV} {F:List Nat} {v:bM} {m:Int} (r:au h x0 xs F) (hsz:xs.length≤1048576):
  cZ Tryz.prog IG [x0,.agg v.cs,.int .i64 m] h fun u h'=>Ext h h'∧∃ u0 F',u= .tup [u0,.int .i64 (rem xs v m).2]∧au h' u0 (rem xs v m).1 F'∧Own h.n h' F':=by
 refine aef _ _ _ ?_
 unfold Oa
 refine kV rfl ?_
 refine kW (n:=h.n+1) au.aF (r.ext ((Ext.refl _).push _)) (by rw[JL r];exact Own.nil) (by simp) rfl (by simp;omega) (by simp;omega) ?_
 intro v1 h1 F1 k1 r1 o1
 have e1:Ext h h1:=k1.ext ((Ext.refl h).push _) (by simp)
 have e1':Ext (h.push ⟨v.cs,0,0⟩) h1:=k1.ext (Ext.refl _) (by simp)
 have a1:At h1 h.n 0 v.cs:=iF.ext e1'
 rw[List.nil_append] at r1
 have hn1:h.n+1≤h1.n:=e1'.1
 have up:∀ {h':AH},Kp h1 h' F1→Ext (h.push ⟨v.cs,0,0⟩) h':=fun kp=>kp.ext e1' fun b hb=>(o1.2 b hb).1
 (repeat' first|refine vs ?_|(refine br ?_ ?_<;>first|exact bx|intro _)|fail)
 ·rename_i hm
  refine⟨rfl,_,rfl,e1,v1,F1,?_,?_,o1.mono (by omega) fun _ _=>rfl⟩
  ·simp[rem,hm]
  ·simpa[rem,hm] using r1
 ·rename_i hm
  refine aT (Zc (p:=isT v.trace) r1 o1 fun h' kp=>aaC (iF.ext (up kp))) ?_
  rintro v2 h2 ⟨k2,r2,o2⟩
  have e2:=up k2
  have a2:At h2 h.n 0 v.cs:=iF.ext e2
  have hfl:(xs.filter fun x=>!isT v.trace x).length≤xs.length:=List.length_filter_le _ _
  clear e1 e1' a1
  (repeat' first|refine vs ?_|fail)
  refine kW (n:=h.n+1) (r2.ext aG) (mV (n:=1) (xs:=[v]) rfl (by decide) (uM ⟨rfl,rfl⟩)) (by simpa using o2.ext aG r2.lt) (by have:=e2.1;simp at this ⊢;omega) rfl (by simp;omega) (by simp;omega) ?_
  intro v3 h3 F3 k3 r3 o3
  have e3:Ext h h3:=k3.ext (Ext.trans ((Ext.refl h).push _) (e2.push _)) fun b hb=>by have:=(o2.2 b hb).1;omega
  have hL:(dY xs v).length≤1048577:=by simp[dY];omega
  change au h3 v3 (dY xs v) F3 at r3
  refine yx (fun k vs h4=>∃ d va F4,vs=[va,.int .i64 (gone (dY xs v) d)]∧k=(dY xs v).length - d∧d≤(dY xs v).length - m.toNat∧Ext h h4∧au h4 va ((dY xs v).drop d) F4∧Own h.n h4 F4) (dY xs v).length ⟨0,v3,F3,rfl,rfl,by omega,e3,r3,o3.mono (by omega) fun _ _=>rfl⟩ ?_
  rintro k vs h4 ⟨d,va,F4,rfl,rfl,hd,e4,r4,o4⟩
  simp only[g0,g1]
  refine bQ r4 ?_
  rw[List.length_drop]
  refine KG (fun hgt=>?_) (fun hle=>?_)
  ·obtain⟨x,hx,hdr,_⟩:=aR (show d < (dY xs v).length by omega)
   rw[hdr] at r4
   have h0:(x::(dY xs v).drop (d+1))[(0:Int).toNat]? =some x:=rfl
   refine dH (qV r4 (by decide) h0 rfl ?_)
   rintro b o cs Fi a5 ⟨rfl,rfl⟩ _
   (repeat' first|refine vs ?_|fail)
   refine U1 rfl r4 o4 fun u r5=>?_
   (repeat' first|refine vs ?_|fail)
   refine⟨_,?_,d+1,u,F4,by rw[Te hx],rfl,by omega,e4,r5,o4⟩
   omega
  ·have hde:d=(dY xs v).length - m.toNat:=by omega
   (repeat' first|refine vs ?_|fail)
   refine⟨rfl,_,rfl,e4,va,F4,?_,?_,o4⟩
   ·rw[hde];simp[rem,hm,g]
   ·rw[hde] at r4;simpa[rem,hm] using r4
theorem ac4 {h:AH} {xs:List bM} {x0:AV} {F:List Nat} {v:bM} {m:Int} (r:au h x0 xs F) (hsz:xs.length≤1048576):
  cZ Tryz.prog Iu [x0,.agg v.cs,.int .i64 m] h fun u h'=>Ext h h'∧∃ u0 F',u= .tup [u0,.int .i64 (rem xs v m).2]∧au h' u0 (rem xs v m).1 F'∧Own h.n h' F':=by
 refine adI _ _ _ ?_
 unfold Ny
 refine kV rfl ?_
 have hf:=JL r
 refine fq (fun hm=>dH ?_) (fun hm=>dw ?_)
 ·refine uJ rfl (by decide) rfl ?_
  obtain⟨re,oe⟩:=gF (h:=h.push ⟨v.cs,0,0⟩) (α:=bM) (w:=3) rfl
  refine kW (n:=h.n+1) re (r.ext aG) (by rw[hf];simpa using oe (h.n+1) (by simp)) (by simp) rfl (by simp;omega) (by simp;omega) ?_
  intro v1 h1 F1 k1 r1 o1
  refine Ev ⟨rfl,_,rfl,k1.ext aG (by simp),v1,F1,?_,?_,o1.mono (by omega) fun _ _=>rfl⟩
  ·simp[rem,hm]
  ·simpa[rem,hm] using r1
 ·refine uJ rfl (by decide) rfl ?_
  obtain⟨re,oe⟩:=gF (h:=h.push ⟨v.cs,0,0⟩) (α:=bM) (w:=3) rfl
  refine aY xs.length (fun i vs h1=>∃ va F',vs=[va,.int .i64 (i:Int)]∧i≤xs.length∧Ext (h.push ⟨v.cs,0,0⟩) h1∧au h1 va ((xs.take i).filter fun x=>!isT v.trace x) F'∧Own (h.n+1) h1 F') ⟨_,_,rfl,by omega,aG,re,oe _ (by simp)⟩ ?_
  rintro i vs h1 _ ⟨va,F',rfl,hi,e,ra,oa⟩
  simp only[g0,g1]
  have a1:At h1 h.n 0 v.cs:=iF.ext e
  have E1:Ext h h1:=Ext.trans ((Ext.refl h).push _) e
  refine bQ r (fq (fun hlt=>?_) (fun hge=>?_))
  ·obtain⟨x,hx,_,htk⟩:=aR (show i < xs.length by omega)
   have hfl:((xs.take i).filter fun x=>!isT v.trace x).length≤(xs.take i).length:=List.length_filter_le _ _
   have htl:(xs.take i).length=i:=by simp;omega
   have hn1:=e.1
   have hE:(xs.take (i+1)).filter (fun x=>!isT v.trace x)=(xs.take i).filter (fun x=>!isT v.trace x)++(if isT v.trace x=true then[] else[x]):=by
    rw[htk,List.filter_append];by_cases hh:isT v.trace x=true<;>simp[hh]
   (repeat' first|refine vs ?_|(refine br ?_ ?_<;>first|exact bx|intro _)|((with_reducible refine aC ?_);((refine ix ?_);rintro _ _ _ _ _ ⟨rfl,rfl⟩ _))|fail)
   ·rename_i hne _ _ _ _
    refine kW (n:=h.n+1) (ra.ext aG) (mV (n:=1) (xs:=[x]) rfl (by decide) (uM ⟨rfl,rfl⟩)) (by simpa using oa.ext aG ra.lt) (by simp at hn1 ⊢;omega) rfl (by simp;omega) (by simp;omega) ?_
    intro v2 h2 F2 kp rv ov
    (repeat' first|refine vs ?_|fail)
    refine⟨by omega,v2,F2,rfl,by omega,kp.ext (Ext.trans e ((Ext.refl _).push _)) fun b hb=>by have:=(oa.2 b hb).1;simpa using this,?_,ov⟩
    rw[hE]
    have: ¬ isT v.trace x=true:=by simp[isT];assumption
    rw[if_neg this];exact rv
   ·refine⟨by omega,va,F',rfl,by omega,e,?_,oa⟩
    rw[hE]
    have:isT v.trace x=true:=by simp[isT];assumption
    rw[if_pos this,List.append_nil];exact ra
  ·have:i=xs.length:=by omega
   subst this
   rw[List.take_length] at ra
   have hfl:(xs.filter fun x=>!isT v.trace x).length≤xs.length:=List.length_filter_le _ _
   have hn1:=e.1
   (repeat' first|refine vs ?_|((with_reducible refine aJ ?_);simp only[g0,g1,g2]))
   refine kW (n:=h.n+1) (ra.ext aG) (mV (n:=1) (xs:=[v]) rfl (by decide) (uM ⟨rfl,rfl⟩)) (by simpa using oa.ext aG ra.lt) (by simp at hn1 ⊢;omega) rfl (by simp;omega) (by simp;omega) ?_
   intro v3 h3 F3 k3 r3 o3
   have e3:Ext h h3:=k3.ext (Ext.trans E1 ((Ext.refl _).push _)) fun b hb=>by have:=(oa.2 b hb).1;omega
   have hL:(dY xs v).length≤1048577:=by simp[dY];omega
   change au h3 v3 (dY xs v) F3 at r3
   refine yx (fun k vs h4=>∃ d va F4,vs=[va,.int .i64 (gone (dY xs v) d)]∧k=(dY xs v).length - d∧d≤(dY xs v).length - m.toNat∧Ext h h4∧au h4 va ((dY xs v).drop d) F4∧Own h.n h4 F4) (dY xs v).length ⟨0,v3,F3,rfl,rfl,by omega,e3,r3,o3.mono (by omega) fun _ _=>rfl⟩ ?_
   rintro k vs h4 ⟨d,va,F4,rfl,rfl,hd,e4,r4,o4⟩
   simp only[g0,g1]
   refine bQ r4 ?_
   rw[List.length_drop]
   refine KG (fun hgt=>?_) (fun hle=>?_)
   ·obtain⟨x,hx,hdr,_⟩:=aR (show d < (dY xs v).length by omega)
    rw[hdr] at r4
    have h0:(x::(dY xs v).drop (d+1))[(0:Int).toNat]? =some x:=rfl
    refine dH (qV r4 (by decide) h0 rfl ?_)
    rintro b o cs Fi a5 ⟨rfl,rfl⟩ _
    clear a1 e3 E1 e
    (repeat' first|refine vs ?_|fail)
    obtain⟨re,oe⟩:=gF (h:=h4) (α:=bM) (w:=3) rfl
    refine U1 rfl (r4.ext aG) (o4.ext aG r4.lt) fun u r5=>?_
    refine kW (n:=h.n) re r5 (by rw[JL r5];simpa using oe h.n e4.1) (by have:=e4.1;simp;omega) rfl (by simp;omega) (by simp;omega) ?_
    intro v6 h6 F6 k6 r6 o6
    (repeat' first|refine vs ?_|fail)
    refine⟨_,?_,d+1,v6,F6,by rw[Te hx],rfl,by omega,k6.ext (e4.push _) (by have:=e4.1;simp;omega),by simpa using r6,o6⟩
    omega
   ·have hde:d=(dY xs v).length - m.toNat:=by omega
    (repeat' first|refine vs ?_|fail)
    refine⟨rfl,_,rfl,e4,va,F4,?_,?_,o4⟩
    ·rw[hde];simp[rem,hm,g]
    ·rw[hde] at r4;simpa[rem,hm] using r4
section
variable{P:Program} {h:AH} {Q:Nat→List AV→AH→Prop} {k:AV→Prog}
end
end Go.Proofs.YtekfdoknfcedpaaGreat
end
section
set_option linter.unusedSimpArgs false
set_option linter.unusedVariables false
set_option maxHeartbeats 4000000
namespace Go.Proofs.YtekfdoknfcedpaaGreat
open Go Go.Ab
section
end
end Go.Proofs.YtekfdoknfcedpaaGreat
end
