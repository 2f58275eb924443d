import Derived.Test.YtcgjihfngdhjjaaGreatDKW1
import Derived.Test.YtcgjihfngdhjjaaGreatDK4
import Derived.Test.YtcgjihfngdhjjaaGreatDK5
import Derived.Test.YtcgjihfngdhjjaaGreatDNm
set_option linter.unusedSimpArgs false
set_option linter.unusedVariables false
section
set_option maxHeartbeats 2000000
namespace Go.Proofs.YtcgjihfngdhjjaaGreat
open Go Go.Ab
section
def RH (x0:AV):Prog:=.op (.box x0) fun a=>Lg 1 a fun b=>Ln 0 b fun c=>.loop [.aA,.int .i64 0] (fun a=>Bn .lss (g a 1) c fun c=>.ite c (Ix 1 b (g a 1) fun b=>.op (.ld1 b) fun b=>.op (.app 3 24 (g a 0) b) fun b=>Bn .add (g a 1) (.int .i64 1) fun a=>.leaf 0 [b,a]) (.leaf 2 [g a 0,g a 1])) fun b c=>aC b 1 (.leaf 1 c) (aC b 2 (Lg 2 a fun b=>Ln 0 b fun d=>.loop [g c 0,.int .i64 0] (fun a=>Bn .lss (g a 1) d fun c=>.ite c (Ix 1 b (g a 1) fun b=>.op (.ld1 b) fun b=>.op (.app 3 24 (g a 0) b) fun b=>Bn .add (g a 1) (.int .i64 1) fun a=>.leaf 0 [b,a]) (.leaf 4 [g a 0,g a 1])) fun b c=>aC b 1 (.leaf 1 c) (aC b 4 (Lg 3 a fun a=>.op (.app 3 24 (g c 0) a) fun a=>.fin [.val a]) .bad)) .bad)
theorem ad9 (x0:AV):CC Tryz.prog rQ [x0] (RH x0):=cc Tryz.func16 [1,3,9,10,11,20,21,22] (fun _=>[])
def Rt (x0:AV):Prog:=.op (.box x0) fun a=>.op (.aS 3 0 [] []) fun b=>.loop [b,.int .i64 0] (fun b=>Lg 1 a fun c=>Ln 0 c fun c=>Bn .lss (g b 1) c fun c=>.ite c (Lg 1 a fun a=>Ix 1 a (g b 1) fun a=>.op (.ld1 a) fun a=>.op (.app 3 24 (g b 0) a) fun a=>Bn .add (g b 1) (.int .i64 1) fun b=>.leaf 0 [a,b]) (.leaf 2 [g b 0,g b 1])) fun b c=>aC b 1 (.leaf 1 c) (aC b 2 (.loop [g c 0,.int .i64 0] (fun b=>Lg 2 a fun c=>Ln 0 c fun c=>Bn .lss (g b 1) c fun c=>.ite c (Lg 2 a fun a=>Ix 1 a (g b 1) fun a=>.op (.ld1 a) fun a=>.op (.app 3 24 (g b 0) a) fun a=>Bn .add (g b 1) (.int .i64 1) fun b=>.leaf 0 [a,b]) (.leaf 4 [g b 0,g b 1])) fun b c=>aC b 1 (.leaf 1 c) (aC b 4 (Lg 3 a fun a=>.op (.app 3 24 (g c 0) a) fun a=>.fin [.val a]) .bad)) .bad)
theorem adW (x0:AV):CC Tryz.prog yO [x0] (Rt x0):=cc Tryz.func70 [1,3,4,5] (fun _=>[])
def QD (x0 x1 x2 x3:AV):Prog:=.op (.box x0) fun a=>Ln 0 x1 fun b=>.loop [.tup [],.int .i64 0] (fun c=>Bn .lss (g c 1) b fun b=>.ite b (Ix 3 x1 (g c 1) fun b=>Ld 3 b fun b=>.op (.alloc [.int .i64 0,.int .i64 0,.int .i64 0]) fun d=>.op (.st 3 d b) fun _=>Lg 0 d fun b=>Bn .lss b (.int .i64 1) fun b=>Gf b false 1 d fun e=>.gop b false (.call bT [e,.int .i64 1,.int .i64 999]) fun e=>.gop b false (.una .not e) fun e=>Pk b (.bool true) e fun b=>Gf b false 2 d fun e=>Gf b false 0 a fun f=>.gop b false (.bin 0 .leq e f) fun e=>Pk b (.bool true) e fun b=>Gf b false 2 d fun e=>.gop b false (.bin 0 .gtr e (.int .i64 2147483647)) fun e=>Pk b (.bool true) e fun b=>.ite b (.fin [.val (.bool false)]) (Lg 2 d fun b=>Bn .quo b (.int .i64 8) fun b=>Lg 0 a fun a=>Bn .quo a (.int .i64 8) fun a=>Bn .sub b a fun a=>Bn .geq a (.int .i64 8) fun b=>Bn .eql x2 (.int .i64 0) fun e=>.scope (.ite e (Bn .eql a (.int .i64 0) fun a=>Gf a true 2 d fun b=>.gop a true (.bin 0 .rem b (.int .i64 8)) fun b=>.gop a true (.mv x3) fun c=>.gop a true (.bin 0 .eql b c) fun b=>Pk a b (.bool false) fun a=>.leaf 0 [a]) (Bn .eql x2 (.int .i64 1) fun c=>.scope (.ite c (Cl bT [a,.int .i64 1,.int .i64 7] fun a=>Gf a true 2 d fun b=>.gop a true (.bin 0 .quo b (.int .i64 8)) fun b=>.gop a true (.bin 0 .rem b (.int .i64 8)) fun b=>.gop a true (.mv x3) fun c=>.gop a true (.bin 0 .eql b c) fun b=>Pk a b (.bool false) fun a=>.leaf 0 [a]) (.leaf 0 [b])) (fun a=>.leaf 0 [g a 0]) fun a b=>aC a 1 (.leaf 1 b) .bad)) (fun a=>.op (.una .not (g a 0)) fun b=>.ite b (.fin [.val (.bool false)]) (Bn .add (g c 1) (.int .i64 1) fun b=>.leaf 0 [g a 0,b])) fun a b=>aC a 1 (.leaf 1 b) .bad)) (.leaf 2 [g c 0,g c 1])) fun a b=>aC a 1 (.leaf 1 b) (aC a 2 (.fin [.val (.bool true)]) .bad)
theorem ac1 (x0 x1 x2 x3:AV):CC Tryz.prog wz [x0,x1,x2,x3] (QD x0 x1 x2 x3):=cc Tryz.func173 [2,3,4,12,13,14,15] (fun _=>[])
def P7 (x0 x1:AV):Prog:=Bn .quo x1 (.int .i64 8) fun a=>Bn .quo x0 (.int .i64 8) fun b=>Bn .eql a b fun a=>.ite a (Bn .rem x1 (.int .i64 8) fun a=>.fin [.val (.int .i64 1),.val a]) (Bn .quo x1 (.int .i64 8) fun a=>Bn .quo x0 (.int .i64 8) fun b=>Bn .sub a b fun a=>Bn .lss a (.int .i64 8) fun a=>.ite a (Bn .quo x1 (.int .i64 8) fun a=>Bn .rem a (.int .i64 8) fun a=>.fin [.val (.int .i64 2),.val a]) (.fin [.val (.int .i64 3),.val (.int .i64 0)]))
theorem acv (x0 x1:AV):CC Tryz.prog uE [x0,x1] (P7 x0 x1):=cc Tryz.func214
def Rb (x0 x1 x2 x3:AV):Prog:=.op (.box x0) fun a=>.loop [.int .i64 0] (fun b=>Ln 0 x1 fun c=>Bn .lss (g b 0) c fun c=>.ite c (Ix 3 x1 (g b 0) fun c=>Ld 3 c fun c=>.op (.alloc [.int .i64 0,.int .i64 0,.int .i64 0]) fun d=>.op (.st 3 d c) fun _=>Lg 0 d fun c=>Bn .lss c (.int .i64 1) fun c=>Gf c false 1 d fun e=>.gop c false (.call dJ [e,.int .i64 1,.int .i64 999]) fun e=>.gop c false (.una .not e) fun e=>Pk c (.bool true) e fun c=>Gf c false 2 d fun e=>Gf c false 0 a fun f=>.gop c false (.bin 0 .add f (.int .i64 1)) fun f=>.gop c false (.call dJ [e,f,.int .i64 2147483647]) fun e=>.gop c false (.una .not e) fun e=>Pk c (.bool true) e fun c=>.ite c (.fin [.val (.bool false)]) (Lg 0 a fun a=>Lg 2 d fun c=>Cl uE [a,c] fun a=>.op (.ext a 0) fun c=>.op (.ext a 1) fun a=>Bn .neq c x2 fun c=>.gop c false (.mv a) fun a=>.gop c false (.mv x3) fun d=>.gop c false (.bin 0 .neq a d) fun a=>Pk c (.bool true) a fun a=>.ite a (.fin [.val (.bool false)]) (Bn .add (g b 0) (.int .i64 1) fun a=>.leaf 0 [a]))) (.leaf 2 [g b 0])) fun a b=>aC a 1 (.leaf 1 b) (aC a 2 (.fin [.val (.bool true)]) .bad)
theorem adG (x0 x1 x2 x3:AV):CC Tryz.prog wB [x0,x1,x2,x3] (Rb x0 x1 x2 x3):=cc Tryz.func139 [1,2,3,4,9] (fun _=>[])
def OI (x0 x1:AV):Prog:=.op (.box x0) fun a=>Lg 0 a fun a=>.op (.ld1 x1) fun b=>Bn .eql a b fun a=>.fin [.val a]
theorem aaV (x0 x1:AV):CC Tryz.prog JN [x0,x1] (OI x0 x1):=cc Tryz.func233
def ZG (x0 x1:AV):Prog:=Ln 0 x0 fun a=>.loop [.int .i64 0] (fun b=>Bn .lss (g b 0) a fun a=>.ite a (Ix 3 x0 (g b 0) fun a=>Ld 3 a fun a=>.op (.gW x1 [a]) fun a=>.ite a (.fin [.val (g b 0)]) (Bn .add (g b 0) (.int .i64 1) fun a=>.leaf 0 [a])) (.leaf 2 [g b 0])) fun a b=>aC a 1 (.leaf 1 b) (aC a 2 (.fin [.val (.int .i64 (-1))]) .bad)
theorem ZI (x0 x1:AV):CC Tryz.prog yA [x0,x1] (ZG x0 x1):=cc Tryz.func182 [0,1,7,8] (fun _=>[])
def QA (x0 x1:AV):Prog:=.op (.box x1) fun a=>.op (.tY JN [a]) fun a=>Cl yA [x0,a] fun a=>.fin [.val a]
theorem acY (x0 x1:AV):CC Tryz.prog ET [x0,x1] (QA x0 x1):=cc Tryz.func174
def QF (x0:AV):Prog:=.op (.box x0) fun a=>Lg 0 a fun b=>Cl bT [b,.int .i64 0,.int .i64 2147483647] fun b=>.op (.una .not b) fun b=>Gf b false 1 a fun c=>.gop b false (.len 0 c) fun c=>.gop b false (.bin 0 .neq c (.int .i64 8)) fun c=>Pk b (.bool true) c fun b=>Gf b false 2 a fun c=>.gop b false (.len 0 c) fun c=>.gop b false (.bin 0 .neq c (.int .i64 8)) fun c=>Pk b (.bool true) c fun b=>.gop b false (.ldn 4 a) fun c=>Gf b false 3 a fun d=>.gop b false (.call wz [c,d,.int .i64 2,.int .i64 0]) fun c=>.gop b false (.una .not c) fun c=>Pk b (.bool true) c fun b=>.ite b (.fin [.val (.bool false)]) (.loop [.int .i64 0] (fun b=>Bn .lss (g b 0) (.int .i64 8) fun c=>.ite c (Ld 4 a fun c=>Lg 1 a fun d=>Ix 1 d (g b 0) fun d=>.op (.ld1 d) fun d=>Cl wz [c,d,.int .i64 0,g b 0] fun c=>.op (.una .not c) fun c=>.gop c false (.ldn 4 a) fun d=>Gf c false 2 a fun a=>.gop c false (.mv (g b 0)) fun e=>.gop c false (.idx 1 a e) fun a=>.gop c false (.ld1 a) fun a=>.gop c false (.mv (g b 0)) fun e=>.gop c false (.call wz [d,a,.int .i64 1,e]) fun a=>.gop c false (.una .not a) fun a=>Pk c (.bool true) a fun a=>.ite a (.fin [.val (.bool false)]) (Bn .add (g b 0) (.int .i64 1) fun a=>.leaf 0 [a])) (.leaf 2 [g b 0])) fun b c=>aC b 1 (.leaf 1 c) (aC b 2 (Ld 4 a fun a=>Cl rQ [a] fun a=>Ln 0 a fun b=>.loop [.int .i64 0] (fun c=>Bn .lss (g c 0) b fun b=>.ite b (Ix 3 a (g c 0) fun b=>Ld 3 b fun b=>.op (.alloc [.int .i64 0,.int .i64 0,.int .i64 0]) fun d=>.op (.st 3 d b) fun _=>Lg 0 d fun b=>Cl ET [a,b] fun a=>Bn .neq a (g c 0) fun a=>.ite a (.fin [.val (.bool false)]) (Bn .add (g c 0) (.int .i64 1) fun a=>.leaf 0 [a])) (.leaf 4 [g c 0])) fun b c=>aC b 1 (.leaf 1 c) (aC b 4 (Ln 0 a fun a=>Bn .leq a (.int .i64 16) fun a=>.fin [.val a]) .bad)) .bad))
theorem ac3 (x0:AV):CC Tryz.prog EW [x0] (QF x0):=cc Tryz.func101 [1,3,4,56,57,58] (fun r=>if r=6 then[(0,[]),(1,[]),(2,[]),(3,[]),(4,[]),(5,[]),(6,[]),(7,[]),(8,[]),(9,[]),(10,[]),(11,[]),(12,[]),(13,[]),(14,[]),(15,[]),(16,[]),(17,[]),(18,[]),(19,[])] else[])
def Qp (x0:AV):Prog:=.op (.box x0) fun a=>Lg 1 a fun b=>Ln 0 b fun b=>Bn .neq b (.int .i64 8) fun b=>Gf b false 2 a fun c=>.gop b false (.len 0 c) fun c=>.gop b false (.bin 0 .neq c (.int .i64 8)) fun c=>Pk b (.bool true) c fun b=>Gf b false 0 a fun c=>.gop b false (.call dJ [c,.int .i64 0,.int .i64 2147483647]) fun c=>.gop b false (.una .not c) fun c=>Pk b (.bool true) c fun b=>.gop b false (.ldn 4 a) fun c=>Gf b false 3 a fun d=>.gop b false (.call wB [c,d,.int .i64 3,.int .i64 0]) fun c=>.gop b false (.una .not c) fun c=>Pk b (.bool true) c fun b=>.ite b (.fin [.val (.bool false)]) (.loop [.int .i64 0] (fun b=>Bn .lss (g b 0) (.int .i64 8) fun c=>.ite c (Ld 4 a fun c=>Lg 1 a fun d=>Ix 1 d (g b 0) fun d=>.op (.ld1 d) fun d=>Cl wB [c,d,.int .i64 1,g b 0] fun c=>.op (.una .not c) fun c=>.gop c false (.ldn 4 a) fun d=>Gf c false 2 a fun a=>.gop c false (.mv (g b 0)) fun e=>.gop c false (.idx 1 a e) fun a=>.gop c false (.ld1 a) fun a=>.gop c false (.mv (g b 0)) fun e=>.gop c false (.call wB [d,a,.int .i64 2,e]) fun a=>.gop c false (.una .not a) fun a=>Pk c (.bool true) a fun a=>.ite a (.fin [.val (.bool false)]) (Bn .add (g b 0) (.int .i64 1) fun a=>.leaf 0 [a])) (.leaf 2 [g b 0])) fun b c=>aC b 1 (.leaf 1 c) (aC b 2 (Ld 4 a fun a=>Cl yO [a] fun a=>.loop [.int .i64 0,.tup []] (fun b=>Ln 0 a fun c=>Bn .lss (g b 0) c fun c=>.ite c (.loop [.int .i64 0] (fun c=>Bn .lss (g c 0) (g b 0) fun d=>.ite d (Ix 3 a (g c 0) fun d=>Lg 0 d fun d=>Ix 3 a (g b 0) fun a=>Lg 0 a fun a=>Bn .eql d a fun a=>.ite a (.fin [.val (.bool false)]) (Bn .add (g c 0) (.int .i64 1) fun a=>.leaf 0 [a])) (.leaf 6 [g c 0])) fun a c=>aC a 1 (.leaf 1 c) (aC a 6 (Bn .add (g b 0) (.int .i64 1) fun a=>.leaf 0 [a,g c 0]) .bad)) (.leaf 4 [g b 0,g b 1])) fun b c=>aC b 1 (.leaf 1 c) (aC b 4 (Ln 0 a fun a=>Bn .leq a (.int .i64 16) fun a=>.fin [.val a]) .bad)) .bad))
theorem acO (x0:AV):CC Tryz.prog kV [x0] (Qp x0):=cc Tryz.func69 [1,3,4,5,6] (fun r=>if r=6 then[(0,[]),(1,[]),(2,[]),(3,[]),(4,[]),(5,[]),(6,[]),(7,[]),(8,[]),(9,[]),(10,[]),(11,[]),(12,[]),(13,[]),(14,[]),(15,[]),(16,[]),(17,[]),(18,[]),(19,[])] else if r=15 then[(0,[]),(1,[]),(2,[]),(3,[]),(4,[]),(5,[]),(6,[]),(7,[]),(8,[]),(9,[]),(10,[])] else[])
end
def timers (w:bn):List Ab.Timer:=(w.near.flatten++w.far.flatten)++w.rest
theorem Ia {l:List (List Ab.Timer)} {i:Nat} {x:List Ab.Timer} (ht:l.take (i+1)=l.take i++[x]):(l.take (i+1)).flatten=(l.take i).flatten++x:=by rw[ht];simp
theorem pG:∀ l:List (List Ab.Timer),l.flatten.length≤szs l
 |[]=>by simp
 |x::l=>by
  have:=pG l
  have h2:Sz.sz x=x.length+szs x:=rfl
  simp only[List.flatten_cons,List.length_append,szs];omega
theorem yK {h:AH} {w:bn} {v0 v1 v2:AV} {F0 F1 F2:List Nat} (hs:Sz.sz w≤67108864) (r0:ah h v0 w.near F0) (r1:ah h v1 w.far F1) (r2:ah h v2 w.rest F2):bq Tryz.prog rQ [.agg (w.cs v0 v1 v2)] h (rF Ab.Timer h (timers w)):=by
 have hsz:Sz.sz w=(w.near.length+szs w.near)+(w.far.length+szs w.far)+(w.rest.length+szs w.rest):=rfl
 refine ad9 _ ?_
 unfold RH
 have hb0:=pG w.near
 have hb1:=pG w.far
 (repeat' first|refine vs ?_|fail)
 refine aX w.near.length (fun i vs h1=>∃ u G,vs=[u,.int .i64 (i:Int)]∧i≤w.near.length∧Ext (h.push ⟨w.cs v0 v1 v2,0,0⟩) h1∧ah h1 u (w.near.take i).flatten G∧Own (h.n+1) h1 G) ⟨.aA,[],rfl,Nat.zero_le _,aI,ah.aA,Own.nil⟩ ?_
 rintro i vs h1 _ ⟨u,G,rfl,hi,e1,ru,ou⟩
 have n1:=e1.1
 simp only[aJ] at n1
 simp only[g0,g1]
 have hb:=pG (w.near.take i)
 have hle:=mX w.near i
 refine br (fun hlt=>?_) (fun hge=>?_)
 ·obtain⟨x,hx,-,htk⟩:=aU (show i < w.near.length by omega)
  have hm:=dh (List.mem_of_getElem? hx)
  have hx2:Sz.sz x=x.length+szs x:=rfl
  refine vs ?_
  refine dw r0 hx rfl ?_
  rintro b o _ Fi a ⟨vx,rfl,rx⟩ _
  (repeat' first|refine vs ?_|fail)
  refine vM (n:=h.n+1) (xs:=(w.near.take i).flatten) (ys:=x) (Fx:=G) aB (aB:ah _ vx x Fi) aY aV rfl ?_ ?_ ?_
  ·omega
  ·omega
  intro u' h' F' ek kp r' o'
  (repeat' first|refine vs ?_|fail)
  exact⟨by omega,u',F',rfl,by omega,ek _ e1 (by simp only[aJ];omega),by rw[Ia htk];exact r',o'⟩
 ·have e:i=w.near.length:=by omega
  rw[e,List.take_length] at ru
  clear hb hle
  (repeat' first|refine vs ?_|refine gS ?_|fail)
  refine aX w.far.length (fun i vs h1=>∃ u G,vs=[u,.int .i64 (i:Int)]∧i≤w.far.length∧Ext (h.push ⟨w.cs v0 v1 v2,0,0⟩) h1∧ah h1 u (w.near.flatten++(w.far.take i).flatten) G∧Own (h.n+1) h1 G) ⟨u,G,rfl,Nat.zero_le _,e1,by simpa using ru,ou⟩ ?_
  clear ru ou e1 n1
  rintro i vs h1 _ ⟨u,G,rfl,hi,e1,ru,ou⟩
  have n1:=e1.1
  simp only[aJ] at n1
  simp only[g0,g1]
  have hb:=pG (w.far.take i)
  have hle:=mX w.far i
  refine br (fun hlt=>?_) (fun hge=>?_)
  ·obtain⟨x,hx,-,htk⟩:=aU (show i < w.far.length by omega)
   have hm:=dh (List.mem_of_getElem? hx)
   have hx2:Sz.sz x=x.length+szs x:=rfl
   refine vs ?_
   refine dw r1 hx rfl ?_
   rintro b o _ Fi a ⟨vx,rfl,rx⟩ _
   (repeat' first|refine vs ?_|fail)
   refine vM (n:=h.n+1) (xs:=w.near.flatten++(w.far.take i).flatten) (ys:=x) (Fx:=G) aB (aB:ah _ vx x Fi) aY aV rfl ?_ ?_ ?_
   ·rw[List.length_append];omega
   ·rw[List.length_append];omega
   intro u' h' F' ek kp r' o'
   (repeat' first|refine vs ?_|fail)
   exact⟨by omega,u',F',rfl,by omega,ek _ e1 (by simp only[aJ];omega),by rw[Ia htk,←List.append_assoc];exact r',o'⟩
  ·have e:i=w.far.length:=by omega
   rw[e,List.take_length] at ru
   (repeat' first|refine vs ?_|refine gS ?_|fail)
   refine vM (n:=h.n+1) (xs:=w.near.flatten++w.far.flatten) (ys:=w.rest) (Fx:=G) aB (aB:ah _ v2 w.rest F2) aY aV rfl ?_ ?_ ?_
   ·rw[List.length_append];omega
   ·rw[List.length_append];omega
   intro u' h' F' ek kp r' o'
   (repeat' first|refine vs ?_|fail)
   exact⟨rfl,_,rfl,ek _ aI (by omega),_,r',o'.mono (by omega) fun _ _=>rfl⟩
theorem Fp {h:AH} {w:bn} {v0 v1 v2:AV} {F0 F1 F2:List Nat} (hs:Sz.sz w≤67108864) (r0:ah h v0 w.near F0) (r1:ah h v1 w.far F1) (r2:ah h v2 w.rest F2):bq Tryz.prog yO [.agg (w.cs v0 v1 v2)] h (rF Ab.Timer h (timers w)):=by
 have hsz:Sz.sz w=(w.near.length+szs w.near)+(w.far.length+szs w.far)+(w.rest.length+szs w.rest):=rfl
 refine adW _ ?_
 unfold Rt
 have hb0:=pG w.near
 have hb1:=pG w.far
 have hl0:=r0.small
 have hl1:=r1.small
 refine vs ?_
 obtain⟨re,oe⟩:=gu (h:=h.push ⟨w.cs v0 v1 v2,0,0⟩) (α:=Ab.Timer) (w:=3) rfl
 refine aX w.near.length (fun i vs h1=>∃ u G,vs=[u,.int .i64 (i:Int)]∧i≤w.near.length∧Ext (h.push ⟨w.cs v0 v1 v2,0,0⟩) h1∧ah h1 u (w.near.take i).flatten G∧Own (h.n+1) h1 G) ⟨_,_,rfl,Nat.zero_le _,aI,re,oe _ (Nat.le_refl _)⟩ ?_
 rintro i vs h1 _ ⟨u,G,rfl,hi,e1,ru,ou⟩
 have n1:=e1.1
 simp only[aJ] at n1
 simp only[g0,g1]
 have hb:=pG (w.near.take i)
 have hle:=mX w.near i
 refine vs ?_
 refine br (fun hlt=>?_) (fun hge=>?_)
 ·obtain⟨x,hx,-,htk⟩:=aU (show i < w.near.length by omega)
  have hm:=dh (List.mem_of_getElem? hx)
  have hx2:Sz.sz x=x.length+szs x:=rfl
  refine vs ?_
  refine dw r0 hx rfl ?_
  rintro b o _ Fi a ⟨vx,rfl,rx⟩ _
  (repeat' first|refine vs ?_|fail)
  refine vM (n:=h.n+1) (xs:=(w.near.take i).flatten) (ys:=x) (Fx:=G) aB (aB:ah _ vx x Fi) aY aV rfl ?_ ?_ ?_
  ·omega
  ·omega
  intro u' h' F' ek kp r' o'
  (repeat' first|refine vs ?_|fail)
  exact⟨by omega,u',F',rfl,by omega,ek _ e1 (by simp only[aJ];omega),by rw[Ia htk];exact r',o'⟩
 ·have e:i=w.near.length:=by omega
  rw[e,List.take_length] at ru
  clear hb hle
  (repeat' first|refine vs ?_|refine gS ?_|fail)
  refine aX w.far.length (fun i vs h1=>∃ u G,vs=[u,.int .i64 (i:Int)]∧i≤w.far.length∧Ext (h.push ⟨w.cs v0 v1 v2,0,0⟩) h1∧ah h1 u (w.near.flatten++(w.far.take i).flatten) G∧Own (h.n+1) h1 G) ⟨u,G,rfl,Nat.zero_le _,e1,by simpa using ru,ou⟩ ?_
  clear ru ou e1 n1
  rintro i vs h1 _ ⟨u,G,rfl,hi,e1,ru,ou⟩
  have n1:=e1.1
  simp only[aJ] at n1
  simp only[g0,g1]
  have hb:=pG (w.far.take i)
  have hle:=mX w.far i
  refine vs ?_
  refine br (fun hlt=>?_) (fun hge=>?_)
  ·obtain⟨x,hx,-,htk⟩:=aU (show i < w.far.length by omega)
   have hm:=dh (List.mem_of_getElem? hx)
   have hx2:Sz.sz x=x.length+szs x:=rfl
   refine vs ?_
   refine dw r1 hx rfl ?_
   rintro b o _ Fi a ⟨vx,rfl,rx⟩ _
   (repeat' first|refine vs ?_|fail)
   refine vM (n:=h.n+1) (xs:=w.near.flatten++(w.far.take i).flatten) (ys:=x) (Fx:=G) aB (aB:ah _ vx x Fi) aY aV rfl ?_ ?_ ?_
   ·rw[List.length_append];omega
   ·rw[List.length_append];omega
   intro u' h' F' ek kp r' o'
   (repeat' first|refine vs ?_|fail)
   exact⟨by omega,u',F',rfl,by omega,ek _ e1 (by simp only[aJ];omega),by rw[Ia htk,←List.append_assoc];exact r',o'⟩
  ·have e:i=w.far.length:=by omega
   rw[e,List.take_length] at ru
   (repeat' first|refine vs ?_|refine gS ?_|fail)
   refine vM (n:=h.n+1) (xs:=w.near.flatten++w.far.flatten) (ys:=w.rest) (Fx:=G) aB (aB:ah _ v2 w.rest F2) aY aV rfl ?_ ?_ ?_
   ·rw[List.length_append];omega
   ·rw[List.length_append];omega
   intro u' h' F' ek kp r' o'
   (repeat' first|refine vs ?_|fail)
   exact⟨rfl,_,rfl,ek _ aI (by omega),_,r',o'.mono (by omega) fun _ _=>rfl⟩
def jE (now kind slot:Int) (t:Ab.Timer):Prop:=1≤t.id∧(1≤t.trace∧t.trace≤999)∧now < t.at_∧t.at_≤2147483647∧
 ((kind=0∧t.at_ / 8=now / 8∧t.at_ % 8=slot)∨(kind=1∧1≤t.at_ / 8 - now / 8∧t.at_ / 8 - now / 8≤7∧t.at_ / 8 % 8=slot)∨(kind=2∧8≤t.at_ / 8 - now / 8))
theorem tm8 {a:Int} (h:0≤a):a.tmod 8=a % 8:=Int.tmod_eq_emod_of_nonneg h
theorem PZ {h:AH} {w:bn} {l:List Ab.Timer} {v v0 v1 v2:AV} {F:List Nat} {kind slot:Int} (h0:0≤w.now) (h1:w.now≤2147483647) (hk:kind=0∨kind=1∨kind=2) (r:ah h v l F):aP Tryz.prog wz [.agg (w.cs v0 v1 v2),v,.int .i64 kind,.int .i64 slot] h (.bool (bp (∀ t∈l,jE w.now kind slot t))):=by
 refine reader (ac1 _ _ _ _) (by simp only[old]) ?_
 unfold QD
 have hsm:=r.small
 (repeat' first|refine vs ?_|fail)
 refine aX l.length (fun i vs h1=>∃ z,vs=[z,.int .i64 (i:Int)]∧i≤l.length∧Ext (h.push ⟨w.cs v0 v1 v2,0,0⟩) h1∧eZ l (fun _ t=>jE w.now kind slot t) i) ⟨_,rfl,Nat.zero_le _,aI,up0⟩ ?_
 rintro i vs h2 _ ⟨z,rfl,hi,e1,hu⟩
 simp only[g0,g1]
 refine br (fun hlt=>?_) (fun hge=>?_)
 ·obtain⟨x,hx,-,-⟩:=aU (show i < l.length by omega)
  (repeat' first|refine vs ?_|(refine br ?_ ?_<;>first|exact bo|intro _)|((with_reducible refine aG bT ?_);(refine dS jG ?_ ?_<;>intro hb<;>(first|replace hb:=fE hb|replace hb:=fG hb)))|((with_reducible refine bB ?_);((refine ix ?_);rintro _ _ _ _ _ ⟨rfl,rfl⟩ _))|refine gS ?_|fail)
  all_goals(have t1:=tm8 (a:=x.at_);have t2:=tm8 (a:=x.at_ / 8))
  all_goals first
   |exact pf fun k=>nN hx (by unfold jE;omega) k
   |exact⟨by omega,_,rfl,by omega,aI,upS hu hx (by unfold jE;omega)⟩
 ·(repeat' first|refine vs ?_|fail)
  rw[show i=l.length by omega] at hu
  exact pt (jV hu)
theorem EG {h:AH} {now at_:Int}:0≤now→now≤2147483647→0≤at_→at_≤2147483647→aP Tryz.prog uE [.int .i64 now,.int .i64 at_] h (.tup [.int .i64 (if at_ / 8=now / 8 then 1 else if at_ / 8 - now / 8 < 8 then 2 else 3),.int .i64 (if at_ / 8=now / 8 then at_ % 8 else if at_ / 8 - now / 8 < 8 then at_ / 8 % 8 else 0)]):=by
 intro h0 h1 h2 h3
 refine reader (acv _ _) (by simp[old,olds]) ?_
 unfold P7
 have t1:=tm8 (a:=at_) h2
 have t2:=tm8 (a:=at_ / 8) (by omega)
 (repeat' first|refine vs ?_|(refine br ?_ ?_<;>first|exact bx|intro _)|fail)
 all_goals(refine⟨rfl,?_,Ext.refl _⟩;first|(simp_all;done)|(simp_all;omega))
theorem Kr {h:AH} {w:bn} {l:List Ab.Timer} {v v0 v1 v2:AV} {F:List Nat} {kind slot k1:Int} (h0:0≤w.now) (h1:w.now≤2147483647) (hk:kind=0∨kind=1∨kind=2∧slot=0) (hk1:k1=kind+1) (r:ah h v l F):aP Tryz.prog wB [.agg (w.cs v0 v1 v2),v,.int .i64 k1,.int .i64 slot] h (.bool (bp (∀ t∈l,jE w.now kind slot t))):=by
 subst hk1
 refine reader (adG _ _ _ _) (by simp only[old]) ?_
 unfold Rb
 have hsm:=r.small
 (repeat' first|refine vs ?_|fail)
 refine aX l.length (fun i vs h1=>vs=[.int .i64 (i:Int)]∧i≤l.length∧Ext (h.push ⟨w.cs v0 v1 v2,0,0⟩) h1∧eZ l (fun _ t=>jE w.now kind slot t) i) ⟨rfl,Nat.zero_le _,aI,up0⟩ ?_
 rintro i vs h2 _ ⟨rfl,hi,e1,hu⟩
 simp only[g0]
 refine vs ?_
 refine br (fun hlt=>?_) (fun hge=>?_)
 ·obtain⟨x,hx,-,-⟩:=aU (show i < l.length by omega)
  (repeat' first|refine vs ?_|(refine br ?_ ?_<;>first|exact bx|intro _)|((with_reducible refine aG dJ ?_);(refine dS j5 ?_ ?_<;>intro hb<;>(first|replace hb:=fE hb|replace hb:=fG hb)))|((with_reducible refine aG uE ?_);(refine aQ (EG (by omega) (by omega) (by omega) (by omega)) ?_))|((with_reducible refine bB ?_);((refine ix ?_);rintro _ _ _ _ _ ⟨rfl,rfl⟩ _))|fail)
  all_goals first
   |exact pf fun k=>nN hx (by unfold jE;omega) k
   |exact⟨by omega,rfl,by omega,aI,upS hu hx (by unfold jE;omega)⟩
 ·(repeat' first|refine vs ?_|fail)
  rw[show i=l.length by omega] at hu
  exact pt (jV hu)
def nQ (k:Int) (t:Ab.Timer):Bool:=decide (t.id=k)
theorem ae4 {h:AH} {b:Nat} {k:Int} (a:At h b 0 [.int .i64 k]):Looks Ab.Timer Tryz.prog h JN [.ptr b 0] (nQ k):=by
 rintro x cs F ⟨rfl,rfl⟩
 refine reader (aaV _ _) (by simp only[old]) ?_
 unfold OI
 (repeat' first|refine vs ?_|(refine br ?_ ?_<;>first|exact bx|intro _)|fail)
 all_goals(refine pb ?_;simp[nQ, *])
theorem N7 {h:AH} {xs:List Ab.Timer} {x0:AV} {F:List Nat} {f:FuncId} {caps:List AV} {p:Ab.Timer→Bool} (r:ah h x0 xs F) (hf:Looks Ab.Timer Tryz.prog h f caps p):
  aP Tryz.prog yA [x0,.fn f caps] h (.int .i64 (idx p xs)):=
 reader (ZI _ _) (by simp only[old]) (Lp (w:=3) rfl r hf)
theorem acg {h:AH} {xs:List Ab.Timer} {x0:AV} {F:List Nat} {k:Int} (r:ah h x0 xs F):aP Tryz.prog ET [x0,.int .i64 k] h (.int .i64 (idx (nQ k) xs)):=by
 refine reader (acY _ _) (by simp only[old]) ?_
 unfold QA
 (repeat' first|refine vs ?_|((with_reducible refine aG yA ?_);refine aQ (N7 aB (ae4 oV)) ?_)|fail)
 exact pi rfl
def Mh {α:Type} (f:α→Int) (l:List α):Prop:=∀ (i:Nat) (x:α),l[i]? =some x→∀ (j:Nat) (y:α),j < i→l[j]? =some y→f y≠f x
theorem ags {α:Type} {p:α→Bool} {l:List α} {i:Nat} {x:α} (hx:l[i]? =some x) (hp:p x=true):idx p l=i↔∀ (j:Nat) (y:α),j < i→l[j]? =some y→p y=false:=by
 constructor
 ·intro h j y hj hy
  rcases BN p l with⟨e,-⟩|⟨k,z,e,hz,hpz,hf⟩
  ·omega
  ·have:k=i:=by omega
   subst this
   rw[List.filter_eq_self] at hf
   have hm:y∈l.take k:=by
    rw[List.mem_iff_getElem?]
    exact⟨j,by rw[List.getElem?_take,if_pos hj];exact hy⟩
   simpa using hf y hm
 ·exact fun h=>xA hx hp h
def kK (w:bn):Prop:=(0≤w.now∧w.now≤2147483647)∧(w.near.length:Int)=8∧(w.far.length:Int)=8∧(∀ t∈w.rest,jE w.now 2 0 t)∧
 (∀ (i:Nat) (a b:List Ab.Timer),w.near[i]? =some a→w.far[i]? =some b→(∀ t∈a,jE w.now 0 i t)∧∀ t∈b,jE w.now 1 i t)∧Mh (·.id) (timers w)∧((timers w).length:Int)≤16
theorem afI (t:Ab.Timer):nQ t.id t=true:=by simp[nQ]
theorem aci {h:AH} {w:bn} {v0 v1 v2:AV} {F0 F1 F2:List Nat} (hs:Sz.sz w≤67108864) (r0:ah h v0 w.near F0) (r1:ah h v1 w.far F1) (r2:ah h v2 w.rest F2):aP Tryz.prog EW [.agg (w.cs v0 v1 v2)] h (.bool (bp (kK w))):=by
 refine reader (ac3 _) (by simp only[old]) ?_
 unfold QF
 (repeat' first|refine vs ?_|(refine br ?_ ?_<;>first|exact bx|intro _)|((with_reducible refine aG bT ?_);(refine dS jG ?_ ?_<;>intro hb<;>(first|replace hb:=fE hb|replace hb:=fG hb)))|((with_reducible refine aG wz ?_);(refine bC (PZ (w:=w) (by omega) (by omega) (by omega) aB) ?_ ?_<;>intro hn))|fail)
 all_goals first
  |exact pf fun k=>by obtain⟨a1,a2,a3,a4,-⟩:=k;first|omega|contradiction
  |skip
 have iD:=hb
 have hrest:=hn
 refine aX 8 (fun i vs h1=>vs=[.int .i64 (i:Int)]∧i≤8∧Ext (h.push ⟨w.cs v0 v1 v2,0,0⟩) h1∧∀ (j:Nat) (a b:List Ab.Timer),j < i→w.near[j]? =some a→w.far[j]? =some b→(∀ t∈a,jE w.now 0 j t)∧∀ t∈b,jE w.now 1 j t) ⟨rfl,Nat.zero_le _,aI,fun j a b hj=>by omega⟩ ?_
 rintro i vs h1 _ ⟨rfl,hi,e1,hu⟩
 simp only[g0]
 refine br (fun hlt=>?_) (fun hge=>?_)
 ·obtain⟨x,hx,-,-⟩:=aU (show i < w.near.length by omega)
  obtain⟨y,hy,-,-⟩:=aU (show i < w.far.length by omega)
  (repeat' first|refine vs ?_|((with_reducible refine aG wz ?_);(refine bC (PZ (w:=w) (by omega) (by omega) (by omega) aB) ?_ ?_<;>intro hn))|((with_reducible refine bB ?_);((refine ix ?_);rintro _ _ _ _ _ ⟨_,rfl,_⟩ _))|fail)
  all_goals first
   |exact pf fun k=>by have k:=k.2.2.2.2.1 i x y hx hy;first|exact absurd k.1 (by assumption)|exact absurd k.2 (by assumption)
   |skip
  refine⟨by omega,rfl,by omega,aI,fun j a b hj ha hb=>?_⟩
  by_cases e:j=i
  ·subst e;rw[hx] at ha;rw[hy] at hb;cases ha;cases hb
   exact⟨by assumption,by assumption⟩
  ·exact hu j a b (by omega) ha hb
 ·(repeat' first|refine vs ?_|fail)
  refine aL (yK hs aB aB aB) ?_
  rintro w1 h2 ⟨e2,G1,q1,o1⟩
  refine eG q1 ?_
  have hsm:=q1.small
  refine aX (timers w).length (fun i vs h3=>vs=[.int .i64 (i:Int)]∧i≤(timers w).length∧Ext h2 h3∧eZ (timers w) (fun i x=>∀ (j:Nat) (y:Ab.Timer),j < i→(timers w)[j]? =some y→y.id≠x.id) i) ⟨rfl,Nat.zero_le _,Ext.refl _,up0⟩ ?_
  rintro k vs h3 _ ⟨rfl,hk,e3,hu3⟩
  simp only[g0]
  refine br (fun hlt=>?_) (fun YD=>?_)
  ·obtain⟨x,hx,-,-⟩:=aU (show k < (timers w).length by omega)
   have hf:=ags hx (afI x)
   refine vs ?_
   refine dw q1 hx rfl ?_
   rintro b o _ Fi a ⟨rfl,rfl⟩ _
   (repeat' first|refine vs ?_|(refine br ?_ ?_<;>first|exact bx|intro _)|((with_reducible refine aG ET ?_);refine aQ (acg aB) ?_)|fail)
   ·rename_i hne
    exact pf fun kk=>hne (hf.2 fun j y hj hy=>by have:=kk.2.2.2.2.2.1 k x hx j y hj hy;simpa[nQ] using this)
   ·rename_i heq
    exact⟨by omega,rfl,by omega,aI,upS hu3 hx fun j y hj hy=>by have:=hf.1 heq j y hj hy;simpa[nQ] using this⟩
  ·rw[show k=(timers w).length by omega] at hu3
   have hu3:=tK hu3
   (repeat' first|refine vs ?_|(refine br ?_ ?_<;>first|exact bx|intro _)|fail)
   ·exact pt ⟨iD,by omega,by omega,hrest,fun i' a b ha hb=>hu i' a b (by have:=(List.getElem?_eq_some_iff.1 ha).1;omega) ha hb,hu3,by omega⟩
   ·exact pf fun kk=>by have:=kk.2.2.2.2.2.2;omega
theorem uD {h:AH} {w:bn} {v0 v1 v2:AV} {F0 F1 F2:List Nat} (hs:Sz.sz w≤67108864) (r0:ah h v0 w.near F0) (r1:ah h v1 w.far F1) (r2:ah h v2 w.rest F2):aP Tryz.prog kV [.agg (w.cs v0 v1 v2)] h (.bool (bp (kK w))):=by
 refine reader (acO _) (by simp only[old]) ?_
 unfold Qp
 (repeat' first|refine vs ?_|(refine br ?_ ?_<;>first|exact bx|intro _)|((with_reducible refine aG dJ ?_);(refine dS j5 ?_ ?_<;>intro hb<;>(first|replace hb:=fE hb|replace hb:=fG hb)))|((with_reducible refine aG wB ?_);(refine bC (Kr (w:=w) (kind:=2) (by omega) (by omega) (by omega) (by rfl) aB) ?_ ?_<;>intro hn))|fail)
 all_goals first
  |exact pf fun k=>by obtain⟨a1,a2,a3,a4,-⟩:=k;first|omega|contradiction
  |skip
 have iD:=hb
 have hrest:=hn
 refine aX 8 (fun i vs h1=>vs=[.int .i64 (i:Int)]∧i≤8∧Ext (h.push ⟨w.cs v0 v1 v2,0,0⟩) h1∧∀ (j:Nat) (a b:List Ab.Timer),j < i→w.near[j]? =some a→w.far[j]? =some b→(∀ t∈a,jE w.now 0 j t)∧∀ t∈b,jE w.now 1 j t) ⟨rfl,Nat.zero_le _,aI,fun j a b hj=>by omega⟩ ?_
 rintro i vs h1 _ ⟨rfl,hi,e1,hu⟩
 simp only[g0]
 refine br (fun hlt=>?_) (fun hge=>?_)
 ·obtain⟨x,hx,-,-⟩:=aU (show i < w.near.length by omega)
  obtain⟨y,hy,-,-⟩:=aU (show i < w.far.length by omega)
  (repeat' first|refine vs ?_|((with_reducible refine aG wB ?_);((first|refine dS (Kr (w:=w) (kind:=0) (l:=x) (by omega) (by omega) (by omega) (by rfl) aB) ?_ ?_|refine dS (Kr (w:=w) (kind:=1) (l:=y) (by omega) (by omega) (by omega) (by rfl) aB) ?_ ?_)<;>intro hn<;>first|replace hn:=oU hn|replace hn:=wR hn))|((with_reducible refine bB ?_);((refine ix ?_);rintro _ _ _ _ _ ⟨_,rfl,_⟩ _))|fail)
  all_goals first
   |exact pf fun k=>by have k:=k.2.2.2.2.1 i x y hx hy;first|exact absurd k.1 (by assumption)|exact absurd k.2 (by assumption)
   |skip
  refine⟨by omega,rfl,by omega,aI,fun j a b hj ha hb=>?_⟩
  by_cases e:j=i
  ·subst e;rw[hx] at ha;rw[hy] at hb;cases ha;cases hb
   exact⟨by assumption,by assumption⟩
  ·exact hu j a b (by omega) ha hb
 ·(repeat' first|refine vs ?_|fail)
  refine aL (Fp hs aB aB aB) ?_
  rintro w1 h2 ⟨e2,G1,q1,o1⟩
  have hsm:=q1.small
  refine aX (timers w).length (fun i vs h3=>∃ z,vs=[.int .i64 (i:Int),z]∧i≤(timers w).length∧h3=h2∧eZ (timers w) (fun i x=>∀ (j:Nat) (y:Ab.Timer),j < i→(timers w)[j]? =some y→y.id≠x.id) i) ⟨_,rfl,Nat.zero_le _,rfl,up0⟩ ?_
  rintro k vs h3 _ ⟨z,rfl,hk,rfl,hu3⟩
  simp only[g0]
  refine eG q1 ?_
  refine br (fun hlt=>?_) (fun YD=>?_)
  ·obtain⟨x,hx,-,-⟩:=aU (show k < (timers w).length by omega)
   refine dL ?_
   refine aX k (fun j vs h4=>vs=[.int .i64 (j:Int)]∧j≤k∧h4=h3∧∀ (m:Nat) (y:Ab.Timer),m < j→(timers w)[m]? =some y→y.id≠x.id) ⟨rfl,Nat.zero_le _,rfl,fun m y hm=>by omega⟩ ?_
   rintro j vs h4 _ ⟨rfl,hj,rfl,hu4⟩
   simp only[g0]
   refine br (fun alF=>?_) (fun hge4=>?_)
   ·obtain⟨y,hy,-,-⟩:=aU (show j < (timers w).length by omega)
    (repeat' first|refine vs ?_|(refine br ?_ ?_<;>first|exact bx|intro _)|((with_reducible refine bB ?_);((refine ix ?_);rintro _ _ _ _ _ ⟨rfl,rfl⟩ _))|fail)
    ·rename_i he
     exact pf fun kk=>kk.2.2.2.2.2.1 k x hx j y (by omega) hy he
    ·rename_i he
     refine⟨by omega,rfl,by omega,rfl,fun m z hm hz=>?_⟩
     by_cases e:m=j
     ·subst e;rw[hy] at hz;cases hz;exact he
     ·exact hu4 m z (by omega) hz
   ·have e:j=k:=by omega
    subst e
    (repeat' first|refine vs ?_|fail)
    exact⟨by omega,_,rfl,by omega,rfl,upS hu3 hx hu4⟩
  ·rw[show k=(timers w).length by omega] at hu3
   have hu3:=tK hu3
   (repeat' first|refine vs ?_|(refine br ?_ ?_<;>first|exact bx|intro _)|fail)
   ·exact pt ⟨iD,by omega,by omega,hrest,fun i' a b ha hb=>hu i' a b (by have:=(List.getElem?_eq_some_iff.1 ha).1;omega) ha hb,hu3,by omega⟩
   ·exact pf fun kk=>by have:=kk.2.2.2.2.2.2;omega
end Go.Proofs.YtcgjihfngdhjjaaGreat
end
section
set_option maxHeartbeats 2000000
namespace Go.Proofs.YtcgjihfngdhjjaaGreat
open Go Go.Ab
section
def Oi (x0 x1:AV):Prog:=.op (.box x0) fun a=>Lg 0 a fun a=>.op (.ld1 x1) fun b=>Bn .eql a b fun a=>.fin [.val a]
theorem aac (x0 x1:AV):CC Tryz.prog JB [x0,x1] (Oi x0 x1):=cc Tryz.func235
def Zw (x0 x1:AV):Prog:=Ln 0 x0 fun a=>.loop [.int .i64 0] (fun b=>Bn .lss (g b 0) a fun a=>.ite a (Ix 3 x0 (g b 0) fun a=>Ld 3 a fun a=>.op (.gW x1 [a]) fun a=>.ite a (.fin [.val (g b 0)]) (Bn .add (g b 0) (.int .i64 1) fun a=>.leaf 0 [a])) (.leaf 2 [g b 0])) fun a b=>aC a 1 (.leaf 1 b) (aC a 2 (.fin [.val (.int .i64 (-1))]) .bad)
theorem Zz (x0 x1:AV):CC Tryz.prog DZ [x0,x1] (Zw x0 x1):=cc Tryz.func234 [0,1,7,8] (fun _=>[])
def OH (x0 x1:AV):Prog:=.op (.box x1) fun a=>.op (.tY JB [a]) fun a=>Cl DZ [x0,a] fun a=>.fin [.val a]
theorem aaU (x0 x1:AV):CC Tryz.prog Em [x0,x1] (OH x0 x1):=cc Tryz.func175
def QL (x0 x1:AV):Prog:=Ln 0 x0 fun a=>.loop [.int .i64 0] (fun b=>Bn .lss (g b 0) a fun a=>.ite a (Ix 3 x0 (g b 0) fun a=>Ld 3 a fun a=>.op (.alloc [.int .i64 0,.int .i64 0,.bool false]) fun c=>.op (.st 3 c a) fun _=>Lg 0 c fun a=>Cl bT [a,.int .i64 1,.int .i64 999] fun a=>.op (.una .not a) fun a=>Gf a false 1 c fun d=>.gop a false (.bin 0 .lss d (.int .i64 1)) fun d=>Pk a (.bool true) d fun a=>.gop a false (.mv x0) fun d=>Gf a false 0 c fun c=>.gop a false (.call Em [d,c]) fun c=>.gop a false (.mv (g b 0)) fun d=>.gop a false (.bin 0 .neq c d) fun c=>Pk a (.bool true) c fun a=>.ite a (.fin [.val (.bool false)]) (Bn .add (g b 0) (.int .i64 1) fun a=>.leaf 0 [a])) (.leaf 2 [g b 0])) fun a b=>aC a 1 (.leaf 1 b) (aC a 2 (Ln 0 x0 fun a=>Bn .leq a x1 fun a=>.fin [.val a]) .bad)
theorem ac9 (x0 x1:AV):CC Tryz.prog E8 [x0,x1] (QL x0 x1):=cc Tryz.func103 [0,1,7,8,9] (fun _=>[])
def PI (x0:AV):Prog:=.op (.box x0) fun a=>Lg 0 a fun b=>Cl bT [b,.int .i64 0,.int .i64 99] fun b=>Gf b true 1 a fun c=>.gop b true (.call bT [c,.int .i64 0,.int .i64 999]) fun c=>Pk b c (.bool false) fun b=>Gf b true 2 a fun c=>Gf b true 1 a fun d=>.gop b true (.call bT [c,.int .i64 0,d]) fun c=>Pk b c (.bool false) fun b=>Gf b true 3 a fun a=>.gop b true (.call bT [a,.int .i64 0,.int .i64 2147483647]) fun a=>Pk b a (.bool false) fun a=>.fin [.val a]
theorem abR (x0:AV):CC Tryz.prog ED [x0] (PI x0):=cc Tryz.func102
def Po (x0:AV):Prog:=.op (.box x0) fun a=>Lg 0 a fun b=>Cl dJ [b,.int .i64 0,.int .i64 99] fun b=>Gf b true 1 a fun c=>.gop b true (.call dJ [c,.int .i64 0,.int .i64 999]) fun c=>Pk b c (.bool false) fun b=>Gf b true 2 a fun c=>Gf b true 1 a fun d=>.gop b true (.call dJ [c,.int .i64 0,d]) fun c=>Pk b c (.bool false) fun b=>Gf b true 3 a fun a=>.gop b true (.call dJ [a,.int .i64 0,.int .i64 2147483647]) fun a=>Pk b a (.bool false) fun a=>.fin [.val a]
theorem abF (x0:AV):CC Tryz.prog vZ [x0] (Po x0):=cc Tryz.func66
def OL (x0:AV):Prog:=.op (.box x0) fun a=>Ld 7 a fun a=>Cl yQ [a] fun a=>.op (.una .not a) fun a=>.fin [.val a]
theorem aaX (x0:AV):CC Tryz.prog Eo [x0] (OL x0):=cc Tryz.func178
def ZL (x0 x1:AV):Prog:=Ln 0 x0 fun a=>.loop [.int .i64 0] (fun b=>Bn .lss (g b 0) a fun a=>.ite a (Ix 7 x0 (g b 0) fun a=>Ld 7 a fun a=>.op (.gW x1 [a]) fun a=>.ite a (.fin [.val (g b 0)]) (Bn .add (g b 0) (.int .i64 1) fun a=>.leaf 0 [a])) (.leaf 2 [g b 0])) fun a b=>aC a 1 (.leaf 1 b) (aC a 2 (.fin [.val (.int .i64 (-1))]) .bad)
theorem ZN (x0 x1:AV):CC Tryz.prog D8 [x0,x1] (ZL x0 x1):=cc Tryz.func237 [0,1,7,8] (fun _=>[])
def NY (x0 x1:AV):Prog:=Cl D8 [x0,x1] fun a=>Bn .geq a (.int .i64 0) fun a=>.fin [.val a]
theorem ZA (x0 x1:AV):CC Tryz.prog D5 [x0,x1] (NY x0 x1):=cc Tryz.func177
def QC (x0:AV):Prog:=.op (.call D5 [x0,.fn Eo []]) fun a=>.op (.una .not a) fun a=>.fin [.val a]
theorem ac0 (x0:AV):CC Tryz.prog Bb [x0] (QC x0):=cc Tryz.func105
end
def isT (k:Int) (v:bO):Bool:=decide (v.trace=k)
theorem adf {h:AH} {b:Nat} {k:Int} (a:At h b 0 [.int .i64 k]):Looks bO Tryz.prog h JB [.ptr b 0] (isT k):=by
 rintro x cs F ⟨rfl,rfl⟩
 refine reader (aac _ _) (by simp only[old]) ?_
 unfold Oi
 (repeat' first|refine vs ?_|(refine br ?_ ?_<;>first|exact bx|intro _)|fail)
 all_goals(refine pb ?_;simp[isT, *])
theorem Zr {h:AH} {xs:List bO} {x0:AV} {F:List Nat} {f:FuncId} {caps:List AV} {p:bO→Bool} (r:ah h x0 xs F) (hf:Looks bO Tryz.prog h f caps p):
  aP Tryz.prog DZ [x0,.fn f caps] h (.int .i64 (idx p xs)):=
 reader (Zz _ _) (by simp only[old]) (Lp (w:=3) rfl r hf)
theorem aaG {h:AH} {xs:List bO} {x0:AV} {F:List Nat} {k:Int} (r:ah h x0 xs F):aP Tryz.prog Em [x0,.int .i64 k] h (.int .i64 (idx (isT k) xs)):=by
 refine reader (aaU _ _) (by simp only[old]) ?_
 unfold OH
 (repeat' first|refine vs ?_|((with_reducible refine aG DZ ?_);refine aQ (Zr aB (adf oV)) ?_)|fail)
 exact pi rfl
def cAt (xs:List bO) (i:Nat) (v:bO):Prop:=(1≤v.trace∧v.trace≤999)∧1≤v.stamp∧∀ j u,j < i→xs[j]? =some u→u.trace≠v.trace
def cOk (xs:List bO) (k:Int):Prop:=(∀ i v,xs[i]? =some v→cAt xs i v)∧(xs.length:Int)≤k
theorem afJ {xs:List bO} {i:Nat} {x:bO} (hx:xs[i]? =some x):idx (isT x.trace) xs=i↔∀ j u,j < i→xs[j]? =some u→u.trace≠x.trace:=by
 constructor
 ·intro h j u hj hu he
  unfold idx at h
  split at h
  ·have:j < xs.findIdx (isT x.trace):=by omega
   have:=List.not_of_lt_findIdx this
   have hj':=(List.getElem?_eq_some_iff.1 hu)
   rw[hj'.2] at this
   simp[isT,he] at this
  ·omega
 ·intro h
  exact xA hx (by simp[isT]) fun j u hj hu=>by simpa[isT] using h j u hj hu
theorem acr {h:AH} {xs:List bO} {x0:AV} {F:List Nat} {k:Int} (r:ah h x0 xs F):aP Tryz.prog E8 [x0,.int .i64 k] h (.bool (bp (cOk xs k))):=by
 refine reader (ac9 _ _) (by simp only[old]) ?_
 unfold QL
 have hsm:=r.small
 refine eG r (aX xs.length (fun i vs h1=>vs=[.int .i64 (i:Int)]∧i≤xs.length∧Ext h h1∧eZ xs (cAt xs) i) ⟨rfl,Nat.zero_le _,Ext.refl _,up0⟩ ?_)
 rintro i vs h1 _ ⟨rfl,hi,e1,hu⟩
 simp only[g0]
 refine br (fun hlt=>?_) (fun hge=>?_)
 ·obtain⟨x,hx,-,-⟩:=aU (show i < xs.length by omega)
  have hf:=afJ hx
  (repeat' first|refine vs ?_|(refine br ?_ ?_<;>first|exact bx|intro _)|((with_reducible refine aG bT ?_);(refine dS jG ?_ ?_<;>intro hb<;>(first|replace hb:=fE hb|replace hb:=fG hb)))|((with_reducible refine aG Em ?_);refine aQ (aaG aB) ?_)|((with_reducible refine bB ?_);((refine ix ?_);rintro _ _ _ _ _ ⟨rfl,rfl⟩ _))|fail)
  all_goals first
   |exact⟨by omega,rfl,by omega,aI,upS hu hx ⟨by omega,by omega,hf.1 (by assumption)⟩⟩
   |(refine pf fun k=>?_;obtain⟨a1,a2,a3⟩:=k.1 i x hx;first|omega|(have:=hf.2 a3;contradiction))
 ·rw[show i=xs.length by omega] at hu
  have hu:=tK hu
  (repeat' first|refine vs ?_|(refine br ?_ ?_<;>first|exact bx|intro _)|fail)
  all_goals first
   |exact pt ⟨hu,by omega⟩
   |exact pf fun k=>by have:=k.2;omega
def iT (b:Bucket):Prop:=(0≤b.rate∧b.rate≤99)∧(0≤b.aZ∧b.aZ≤999)∧(0≤b.tokens∧b.tokens≤b.aZ)∧(0≤b.at_∧b.at_≤2147483647)
theorem abo {h:AH} {b:Bucket}:aP Tryz.prog ED [.agg b.cs] h (.bool (bp (iT b))):=by
 refine reader (abR _) (by simp only[old,Bucket.cs,olds,and_self]) ?_
 unfold PI
 (repeat' first|refine vs ?_|((with_reducible refine aG bT ?_);(refine dS jG ?_ ?_<;>intro hb<;>(first|replace hb:=fE hb|replace hb:=fG hb)))|fail)
 all_goals first
  |exact pt (by unfold iT;omega)
  |exact pf (by unfold iT;omega)
theorem JU {h:AH} {b:Bucket}:aP Tryz.prog vZ [.agg b.cs] h (.bool (bp (iT b))):=by
 refine reader (abF _) (by simp only[old,Bucket.cs,olds,and_self]) ?_
 unfold Po
 (repeat' first|refine vs ?_|((with_reducible refine aG dJ ?_);(refine dS j5 ?_ ?_<;>intro hb<;>(first|replace hb:=fE hb|replace hb:=fG hb)))|fail)
 all_goals first
  |exact pt (by unfold iT;omega)
  |exact pf (by unfold iT;omega)
noncomputable def Ae (x:Itm):Bool:=!bp (kZ x)
theorem ae5 {h:AH} {x:Itm} {v:AV} {F:List Nat} (ok:Cel.ok x.s) (hs:Sz.sz x.s≤67108864) (r:ah h v x.s.attrs F):aP Tryz.prog Eo [.agg (x.cs v)] h (.bool (Ae x)):=by
 refine reader (aaX _) (by simp only[old]) ?_
 unfold OL
 (repeat' first|refine vs ?_|((with_reducible refine aG yQ ?_);refine aQ (Q8 ok hs aB) ?_)|fail)
 exact pb rfl
theorem ZJ {h:AH} {xs:List Itm} {x0:AV} {F:List Nat} {f:FuncId} {caps:List AV} {p:Itm→Bool} (r:ah h x0 xs F) (hf:Ij Itm Tryz.prog h f caps xs p):
  aP Tryz.prog D8 [x0,.fn f caps] h (.int .i64 (idx p xs)):=
 reader (ZN _ _) (by simp only[old]) (agt (w:=7) rfl r hf)
theorem zQ {α:Type} {p:α→Bool} {xs:List α}:0≤idx p xs↔∃ x∈xs,p x=true:=by
 rcases BN p xs with⟨e,hn⟩|⟨i,x,e,hx,hp,-⟩
 ·constructor
  ·intro h;omega
  ·rintro⟨x,hx,hp⟩
   have:x∈xs.filter (fun y=>p y):=List.mem_filter.2 ⟨hx,hp⟩
   exact absurd hp (by simpa using(by simp_all))
 ·exact⟨fun _=>⟨x,List.mem_of_getElem? hx,hp⟩,fun _=>by omega⟩
theorem Zt {h:AH} {xs:List Itm} {x0:AV} {F:List Nat} {f:FuncId} {caps:List AV} {p:Itm→Bool} (r:ah h x0 xs F) (hf:Ij Itm Tryz.prog h f caps xs p):
  aP Tryz.prog D5 [x0,.fn f caps] h (.bool (bp (∃ x∈xs,p x=true))):=by
 refine reader (ZA _ _) (by simp only[old]) ?_
 unfold NY
 (repeat' first|refine vs ?_|(refine br ?_ ?_<;>first|exact bx|intro _)|((with_reducible refine aG D8 ?_);refine aQ (ZJ aB hf) ?_)|fail)
 ·exact pt (zQ.1 (by assumption))
 ·exact pf fun k=>absurd (zQ.2 k) (by assumption)
theorem PY {h:AH} {xs:List Itm} {x0:AV} {F:List Nat} (ok:∀ x∈xs,Cel.ok x) (hs:xs.length+szs xs≤67108864) (r:ah h x0 xs F):aP Tryz.prog Bb [x0] h (.bool (bp (∀ x∈xs,kZ x))):=by
 refine reader (ac0 _) (by simp only[old]) ?_
 unfold QC
 have hl:Ij Itm Tryz.prog h Eo [] xs Ae:=by
  rintro x cs F hm ⟨v,rfl,rx⟩
  have hx:=dh hm
  have hx2:Sz.sz x=Sz.sz x.s:=rfl
  exact ae5 (ok x hm).2 (by omega) rx
 (repeat' first|refine vs ?_|((with_reducible refine aG D5 ?_);refine aQ (Zt aB hl) ?_)|fail)
 refine pb ?_
 by_cases e:∀ x∈xs,kZ x
 ·have: ¬ ∃ x∈xs,Ae x=true:=by
   rintro⟨x,hx,hp⟩
   simp[Ae,fK (e x hx)] at hp
  rw[fK e,gM this];rfl
 ·suffices hh:∃ x∈xs,Ae x=true by rw[gM e,fK hh];rfl
  have⟨x,hx⟩:=Classical.not_forall.1 e
  have⟨hm,hx⟩:=Classical.not_imp.1 hx
  exact⟨x,hm,by simp[Ae,gM hx]⟩
end Go.Proofs.YtcgjihfngdhjjaaGreat
end
section
set_option maxHeartbeats 2000000
namespace Go.Proofs.YtcgjihfngdhjjaaGreat
open Go Go.Ab
section
def P8 (x0:AV):Prog:=.op (.aS 1 0 [] []) fun a=>.loop [a,.int .i64 0] (fun a=>Ln 0 x0 fun b=>Bn .lss (g a 1) b fun b=>.ite b (.op (.aS 3 0 [] []) fun b=>Ix 1 x0 (g a 1) fun c=>.op (.ld1 c) fun c=>.op (.app 3 24 b c) fun b=>.op (.aS 1 1 [.aA] [(0,1,b)]) fun b=>.op (.app 1 24 (g a 0) b) fun b=>Bn .add (g a 1) (.int .i64 1) fun a=>.leaf 0 [b,a]) (.leaf 2 [g a 0,g a 1])) fun a b=>aC a 1 (.leaf 1 b) (aC a 2 (.fin [.val (g b 0)]) .bad)
theorem acw (x0:AV):CC Tryz.prog EJ [x0] (P8 x0):=cc Tryz.func224 [0,3,4] (fun _=>[])
end
theorem PN (xs:List (List Ab.Timer)) (hs:xs.length+szs xs≤67108864):vN Tryz.prog EJ xs:=by
 intro v F h r
 refine acw _ ?_
 unfold P8
 have hsm:=r.small
 obtain⟨re,oe⟩:=gu (h:=h) (α:=List Ab.Timer) (w:=1) rfl
 refine vs ?_
 refine aX xs.length (fun i vs h1=>∃ u G,vs=[u,.int .i64 (i:Int)]∧i≤xs.length∧Ext h h1∧ah h1 u (xs.take i) G∧Own h.n h1 G) ⟨_,_,rfl,Nat.zero_le _,(Ext.refl _).push _,by rw[List.take_zero];exact re,oe _ (Nat.le_refl _)⟩ ?_
 rintro i vs h1 _ ⟨u,G,rfl,hi,e1,ru,ou⟩
 have n1:=e1.1
 simp only[g0,g1]
 refine eG r ?_
 refine br (fun hlt=>?_) (fun hge=>?_)
 ·obtain⟨x,hx,-,htk⟩:=aU (show i < xs.length by omega)
  have hm:=dh (List.mem_of_getElem? hx)
  have hx2:Sz.sz x=x.length+szs x:=rfl
  refine vs ?_
  refine dw r hx rfl ?_
  rintro b o _ Fi a ⟨vx,rfl,rx⟩ _
  (repeat' first|refine vs ?_|fail)
  refine DT (h:=h1) (n:=h1.n) (ys:=x) (aB:ah h1 vx x Fi) (zn rx _) (Nat.le_refl _) rfl (by omega) ?_
  intro w2 h2 G2 e2 q2 o2
  have n2:=e2.1
  (repeat' first|refine vs ?_|fail)
  have hlen:(xs.take i).length=i:=by rw[List.length_take];omega
  refine app1 (n:=h.n) (xs:=xs.take i) (Fx:=G) (a:=x) aB ⟨_,rfl,q2⟩ (iK (aY) o2 (by omega) ng) aV rfl ?_ ?_ ?_
  ·rw[hlen];omega
  ·rw[hlen];omega
  intro u' h' F' ek kp r' o'
  (repeat' first|refine vs ?_|fail)
  exact⟨by omega,u',F',rfl,by omega,ek h aI (Nat.le_refl _),by rw[htk];exact r',o'⟩
 ·(repeat' first|refine vs ?_|fail)
  exact⟨rfl,u,rfl,e1,G,by rw[show i=xs.length by omega,List.take_length] at ru;exact ru,ou⟩
end Go.Proofs.YtcgjihfngdhjjaaGreat
end
section
set_option maxHeartbeats 2000000
namespace Go.Proofs.YtcgjihfngdhjjaaGreat
open Go Go.Ab
section
end
end Go.Proofs.YtcgjihfngdhjjaaGreat
end
section
set_option maxHeartbeats 2000000
namespace Go.Proofs.YtcgjihfngdhjjaaGreat
open Go Go.Ab
section
def Rj (x0:AV):Prog:=.op (.box x0) fun a=>.op (.alloc mq) fun b=>Ld 5 a fun c=>.op (.alloc mq) fun d=>.op (.st 5 d c) fun _=>.op (.aS 5 0 [] []) fun c=>Sg 4 d c fun _=>.loop [.int .i64 0] (fun b=>Lg 4 a fun c=>Ln 0 c fun c=>Bn .lss (g b 0) c fun c=>.ite c (Lg 4 a fun a=>Ix 5 a (g b 0) fun a=>Ld 5 a fun a=>Cl yL [a] fun a=>.op (.alloc mq) fun c=>.op (.st 5 c a) fun _=>Lg 4 d fun a=>Ld 5 c fun c=>.op (.aS 5 1 mq [(0,5,c)]) fun c=>.op (.app 5 72 a c) fun a=>Sg 4 d a fun _=>Bn .add (g b 0) (.int .i64 1) fun a=>.leaf 0 [a]) (.leaf 2 [g b 0])) fun a c=>aC a 1 (.leaf 1 c) (aC a 2 (Ld 5 d fun a=>.op (.st 5 b a) fun _=>.fin [.cn 5 b]) .bad)
theorem adL (x0:AV):CC Tryz.prog yL [x0] (Rj x0):=cc Tryz.func150 [1,2,3,4] (fun _=>[])
def Qm (x0:AV):Prog:=.op (.box x0) fun a=>.op (.alloc zy) fun b=>Ld 12 a fun c=>.op (.alloc zy) fun d=>.op (.st 12 d c) fun _=>.op (.fad 7 a) fun a=>Ld 5 a fun a=>Cl yL [a] fun a=>.op (.alloc mq) fun c=>.op (.st 5 c a) fun _=>Ld 5 c fun a=>.op (.fad 7 d) fun c=>.op (.st 5 c a) fun _=>Ld 12 d fun a=>.op (.st 12 b a) fun _=>.fin [.cn 12 b]
theorem acL (x0:AV):CC Tryz.prog A9 [x0] (Qm x0):=cc Tryz.func82
end
theorem adh (x:Pol):Sz.sz x≤67108864→mP Pol Tryz.prog yL x:=by
 refine sN (p:=fun x=>Sz.sz x≤67108864→mP Pol Tryz.prog yL x) ?_ x
 intro x ih hs cs F h r
 rw[Pol.Ip] at hs
 rw[Pol.gD] at r
 obtain⟨v0,rfl,r0⟩:=r
 have hsm:=r0.small
 refine adL _ ?_
 unfold Rj
 (repeat' first|refine vs ?_|fail)
 refine aX x.l.length (fun i vs h1=>∃ u G,vs=[.int .i64 (i:Int)]∧i≤x.l.length∧Bk h1 h.n (x.cs v0) 0∧Bk h1 (h.n+1+1) [.int .i64 x.kind,.int .i64 x.n,.str x.key,.str x.text,u] 0∧Bk h1 (h.n+1) [AV.int .i64 0,AV.int .i64 0,AV.str ⟨#[]⟩,AV.str ⟨#[]⟩,AV.aA] 0∧Ext h h1∧h.n+1+1+1≤h1.n∧ah h1 u (x.l.take i) G∧Own (h.n+1+1+1) h1 G) ?_ ?_
 ·refine⟨_,[h.n+1+1+1],rfl,Nat.zero_le _,aO,aO,aO,aI,by simp only[aJ,aN];omega,?_,?_⟩
  ·exact(gu (α:=Pol) (w:=5) rfl).1
  ·exact(gu (α:=Pol) (w:=5) rfl).2 _ (by simp only[aJ];omega)
 rintro i vs h1 _ ⟨u,G,rfl,hi,b0,b2,b1,e1,m1,ru,ou⟩
 simp only[g0,g1]
 refine vs ?_
 refine br (fun hlt=>?_) (fun hge=>?_)
 ·obtain⟨y,hy,-,htk⟩:=aU (show i < x.l.length by omega)
  have hm:=dh (List.mem_of_getElem? hy)
  have c:=ih y (List.mem_of_getElem? hy) (by omega)
  refine vs ?_
  refine dw r0 hy rfl ?_
  rintro b o cy Fi a ry _
  rw[Pol.gD] at ry
  obtain⟨vy,rfl,ry⟩:=ry
  (repeat' first|refine vs ?_|fail)
  refine aL (c _ _ _ (Pol.gD.2 ⟨_,rfl,aB⟩)) ?_
  rintro _ h2 ⟨e2,_,G2,rfl,r2,o2⟩
  rw[Pol.gD] at r2
  obtain⟨w2,rfl,q2⟩:=r2
  have n2:=e2.1
  (try simp only[aJ,aN] at n2)
  (repeat' first|refine vs ?_|fail)
  have hlen:(x.l.take i).length=i:=by rw[List.length_take];omega
  refine app1 (n:=h.n+1+1+1) (xs:=x.l.take i) (Fx:=G) (a:=y) aB (Pol.gD.2 ⟨_,rfl,aB⟩) (iK (aY) (aY:Own h1.n _ G2) (by omega) ng) aV rfl ?_ ?_ ?_
  ·rw[hlen];omega
  ·rw[hlen];omega
  intro u' h' F' ek kp r' o'
  have n3:=kp.1
  (try simp only[aJ,aN] at n3)
  (repeat' first|refine vs ?_|fail)
  exact⟨by omega,u',F',rfl,by omega,aO,aO,aO,(ek h aI (by omega)).upd (by(try simp only[aJ,aN]);omega) _,by simp only[aN];omega,by rw[htk];exact aB,aY⟩
 ·have hlen:i=x.l.length:=by omega
  subst hlen
  rw[List.take_length] at ru
  (repeat' first|refine vs ?_|fail)
  exact⟨rfl,_,rfl,aI,_,_,rfl,Pol.gD.2 ⟨_,rfl,aB⟩,(aY:Own (h.n+1+1+1) _ _).mono (by omega) fun _ _=>rfl⟩
theorem PS (x:iQ) (hs:Sz.sz x≤67108864):mP iQ Tryz.prog A9 x:=by
 rintro cs F h ⟨v0,rfl,r0⟩
 have hx2:Sz.sz x=Sz.sz x.rule:=rfl
 refine acL _ ?_
 unfold Qm
 (repeat' first|refine vs ?_|((with_reducible refine aG yL ?_);(refine aL (adh x.rule (by omega) _ _ _ (Pol.gD.2 ⟨_,rfl,aB⟩)) ?_;rintro _ h2 ⟨e2,_,G2,rfl,r2,o2⟩;rw[Pol.gD] at r2;obtain⟨w2,rfl,q2⟩:=r2;have n2:=e2.1;(try simp only[aJ,aN] at n2)))|fail)
 exact⟨rfl,_,rfl,aI,_,_,rfl,⟨_,rfl,aB⟩,aY⟩
end Go.Proofs.YtcgjihfngdhjjaaGreat
end
section
set_option maxHeartbeats 2000000
namespace Go.Proofs.YtcgjihfngdhjjaaGreat
open Go Go.Ab
section
def Rc (x0:AV):Prog:=.op (.box x0) fun a=>.op (.alloc [.int .i64 0,.aA,.aA,.aA]) fun b=>.op (.fad 0 a) fun c=>.op (.ld1 c) fun d=>Lg 1 a fun e=>.op (.fad 2 a) fun f=>.op (.ld1 f) fun i=>.op (.aS 3 0 [] []) fun j=>.op (.fad 3 a) fun a=>.op (.ld1 a) fun k=>Cl EJ [e] fun e=>.chk (.ld1 c) d (.chk (.ld1 f) i (.chk (.aS 3 0 [] []) j (.chk (.ld1 a) k (Cl EJ [i] fun f=>.chk (.ld1 c) d (.chk (.aS 3 0 [] []) j (.chk (.ld1 a) k (.op (.app 3 24 j k) fun a=>.chk (.ld1 c) d (.op (.build [.int .i64 0,.aA,.aA,.aA] [(0,1,d),(1,1,e),(2,1,f),(3,1,a)]) fun a=>.op (.st 4 b a) fun _=>.fin [.cn 4 b]))))))))
theorem adH (x0:AV):CC Tryz.prog uH [x0] (Rc x0):=cc Tryz.func157 [] (fun r=>if r=1 then[(0,[]),(1,[]),(2,[]),(3,[]),(5,[]),(6,[]),(8,[]),(9,[]),(10,[]),(4,[1,6,8,10]),(7,[1,8,10]),(11,[1]),(12,[]),(13,[])] else[])
def O9:Prog:=.op (.alloc [.int .i64 0,.aA,.aA,.aA]) fun a=>.op (.build [.int .i64 0,.aA,.aA,.aA] []) fun b=>.op (.alloc [.int .i64 0,.aA,.aA,.aA]) fun c=>.op (.st 4 c b) fun _=>.loop [.int .i64 0] (fun a=>Bn .lss (g a 0) (.int .i64 8) fun b=>.ite b (Lg 1 c fun b=>.op (.aS 3 0 [] []) fun d=>.op (.aS 1 1 [.aA] [(0,1,d)]) fun d=>.op (.app 1 24 b d) fun b=>Sg 1 c b fun _=>Lg 2 c fun b=>.op (.aS 3 0 [] []) fun d=>.op (.aS 1 1 [.aA] [(0,1,d)]) fun d=>.op (.app 1 24 b d) fun b=>Sg 2 c b fun _=>Bn .add (g a 0) (.int .i64 1) fun a=>.leaf 0 [a]) (.leaf 2 [g a 0])) fun b d=>aC b 1 (.leaf 1 d) (aC b 2 (Ld 4 c fun b=>.op (.st 4 a b) fun _=>.fin [.cn 4 a]) .bad)
theorem abx:CC Tryz.prog AX [] (O9):=cc Tryz.func84 [0,1,2] (fun _=>[])
def OG (x0 x1:AV):Prog:=.op (.alloc [.int .i64 0,.int .i64 0,.int .i64 0,.int .i64 0]) fun a=>.op (.build [.int .i64 0,.int .i64 0,.int .i64 0,.int .i64 0] [(0,1,x0),(1,1,x1),(2,1,x1)]) fun b=>.op (.st 4 a b) fun _=>.fin [.cn 4 a]
theorem aaT (x0 x1:AV):CC Tryz.prog El [x0,x1] (OG x0 x1):=cc Tryz.func83
end
def YV (α:Type) [Cel α] (h:AH) (x:α):AV→AH→Prop:=fun u h'=>Ext h h'∧∃ cs F,u= .agg cs∧Cel.rep h' x cs F∧Own h.n h' F
theorem yJ (x:bn) (hs:Sz.sz x≤67108864):mP bn Tryz.prog uH x:=by
 rintro cs F h ⟨v0,v1,v2,F0,F1,F2,rfl,rfl,r0,r1,r2⟩
 have hsz:Sz.sz x=(x.near.length+szs x.near)+(x.far.length+szs x.far)+(x.rest.length+szs x.rest):=rfl
 refine adH _ ?_
 unfold Rc
 (repeat' first|refine vs ?_|fail)
 obtain⟨re,oe⟩:=gu (h:=(h.push ⟨x.cs v0 v1 v2,0,0⟩).push ⟨[AV.int .i64 0,AV.aA,AV.aA,AV.aA],0,0⟩) (α:=Ab.Timer) (w:=3) rfl
 have oe:=oe (h.n+1+1) (by simp)
 obtain⟨H,hH⟩:∃ H,H=(((h.push ⟨x.cs v0 v1 v2,0,0⟩).push ⟨[AV.int .i64 0,AV.aA,AV.aA,AV.aA],0,0⟩).push ⟨[],3,0⟩):=⟨_,rfl⟩
 have nH:H.n=h.n+1+1+1:=by rw[hH];rfl
 have eH:Ext h H:=by rw[hH];exact((Ext.refl h).push _).push _ |>.push _
 have bx:Bk H h.n (x.cs v0 v1 v2) 0:=by rw[hH];exact aO
 have bo:Bk H (h.n+1) [AV.int .i64 0,AV.aA,AV.aA,AV.aA] 0:=by rw[hH];exact aO
 have be:Bk H (h.n+1+1) [] 3:=by rw[hH];exact gF
 rw[←hH] at re oe
 have hH':=hH.symm
 simp only[aJ] at hH' re oe
 clear hH
 try rw[hH']
 clear hH'
 have r0:=r0.ext eH
 have r1:=r1.ext eH
 have r2:=r2.ext eH
 refine aL (PN x.near (by omega) _ _ _ r0) ?_
 rintro w1 h1 ⟨e1,G1,q1,o1⟩
 have n1:=e1.1
 have bx1:=fq e1 bx
 have be1:=fq e1 be
 have r2:=r2.ext e1
 have r1:=r1.ext e1
 (repeat' first|refine vs ?_|((with_reducible refine Xc ?_);refine Mr (by assumption) (by rfl) (by decide) (by rfl) ?_)|fail)
 refine aL (PN x.far (by omega) _ _ _ r1) ?_
 rintro w2 h2 ⟨e2,G2,q2,o2⟩
 have n2:=e2.1
 have bx2:=fq e2 bx1
 have be2:=fq e2 be1
 have r2:=r2.ext e2
 have re:=(re.ext e1).ext e2
 have oe:=(jk e2 (jk e1 ⟨oe,(fun c hc=>by rw[List.mem_singleton.1 hc,nH];omega:∀ c∈[h.n+1+1],c < H.n)⟩)).1
 (repeat' first|refine vs ?_|((with_reducible refine Xc ?_);refine Mr (by assumption) (by rfl) (by decide) (by rfl) ?_)|fail)
 refine IJ (n:=h.n+1+1) (xs:=([]:List Ab.Timer)) (ys:=x.rest) re r2 oe (by omega) rfl (by simp;omega) (by simp;omega) ?_
 rintro w3 h3 G3 k3 q3 o3 m3
 have n3:=k3.1
 have bx3:=bI k3 bx2 (by simp only[List.mem_singleton];omega)
 have bo3:=bI k3 (fq e2 (fq e1 bo)) (by simp only[List.mem_singleton];omega)
 have d1:∀ c∈G1,c ∉ [h.n+1+1]:=fun c hc hX=>by have:=(o1.2 c hc).1;have:=List.mem_singleton.1 hX;omega
 have d2:∀ c∈G2,c ∉ [h.n+1+1]:=fun c hc hX=>by have:=(o2.2 c hc).1;have:=List.mem_singleton.1 hX;omega
 have l1:=q1.lt
 have l2:=q2.lt
 have o1':=bX k3 (jk e2 ⟨o1,l1⟩) d1
 have o2':=bX k3 ⟨o2,l2⟩ d2
 have q1':=aK k3 (q1.ext e2) d1
 have q2':=aK k3 q2 d2
 have eT:Ext h h3:=Kp.ext (eH.trans (e1.trans e2)) k3 fun c hc=>by rw[List.mem_singleton.1 hc];omega
 have q3':ah h3 w3 x.rest G3:=q3
 (repeat' first|refine vs ?_|fail)
 refine⟨rfl,_,rfl,eT.upd (by simp only[aJ];omega) _,_,G1++(G2++G3),rfl,⟨_,_,_,_,_,_,rfl,rfl,?_,?_,?_⟩,?_⟩
 ·refine dH q1' fun hm=>?_
  have:=(o1.2 _ hm).1;simp only[aJ] at this;omega
 ·refine dH q2' fun hm=>?_
  have:=(o2.2 _ hm).1;simp only[aJ] at this;omega
 ·refine dH q3' fun hm=>?_
  rcases m3 _ hm with q|q
  ·have:=List.mem_singleton.1 q;simp only[aJ] at this;omega
  ·simp only[aJ] at q;omega
 ·have oo:bU (h.n+1+1) h3 (G1++(G2++G3)):=iI ⟨o1'.1.mono (by omega) fun _ _=>rfl,o1'.2⟩ (iI ⟨o2'.1.mono (by omega) fun _ _=>rfl,o2'.2⟩ ⟨o3,q3.lt⟩ fun c hc hm=>by
   rcases m3 c hm with q|q
   ·exact d2 c hc q
   ·have:=l2 c hc;omega) fun c hc hm=>by
   rcases List.mem_append.1 hm with hm|hm
   ·have:=l1 c hc;have:=(o2.2 c hm).1;omega
   ·rcases m3 c hm with q|q
    ·exact d1 c hc q
    ·have:=l1 c hc;omega
  refine(dM oo fun hm=>?_).1.mono (by omega) fun _ _=>rfl
  have:=(oo.1.2 _ hm).1;simp only[aJ] at this;omega
def BQ:bn:=⟨0,List.replicate 8 [],List.replicate 8 [],[]⟩
theorem OX {h:AH}:bq Tryz.prog AX [] h (YV bn h BQ):=by
 refine abx ?_
 unfold O9
 (repeat' first|refine vs ?_|fail)
 refine aX 8 (fun i vs h1=>∃ u1 u2 G1 G2,vs=[.int .i64 (i:Int)]∧i≤8∧Bk h1 (h.n+1) [.int .i64 0,u1,u2,.aA] 0∧Bk h1 h.n [AV.int .i64 0,AV.aA,AV.aA,AV.aA] 0∧Ext h h1∧h.n+1+1≤h1.n∧ah h1 u1 (List.replicate i ([]:List Ab.Timer)) G1∧ah h1 u2 (List.replicate i ([]:List Ab.Timer)) G2∧Own (h.n+1+1) h1 G1∧Own (h.n+1+1) h1 G2∧∀ c∈G1,c ∉ G2) ?_ ?_
 ·exact⟨.aA,.aA,[],[],rfl,Nat.zero_le _,aO,aO,aI,by simp only[aJ,aN];omega,ah.aA,ah.aA,Own.nil,Own.nil,by simp⟩
 rintro i vs h1 _ ⟨u1,u2,G1,G2,rfl,hi,b1,b0,e1,m1,r1,r2,o1,o2,d12⟩
 simp only[g0]
 refine br (fun hlt=>?_) (fun hge=>?_)
 ·(repeat' first|refine vs ?_|fail)
  have re:=(gu (h:=h1) (α:=Ab.Timer) (w:=3) rfl)
  have re1:=re.1
  have re2:=re.2 (h.n+1+1) m1
  refine iC (n:=h.n+1+1) (xs:=List.replicate i ([]:List Ab.Timer)) (Fx:=G1) (a:=[]) aB ⟨_,rfl,re1⟩ (iK (aY) re2 (Nat.le_refl _) ng) aV rfl ?_ ?_ ?_
  ·simp;omega
  ·simp;omega
  intro w1 h2 F1 ek1 kp1 q1 p1 f1
  have n2:=kp1.1
  simp only[aJ] at n2
  have d1:∀ c∈F1,c ∉ G2:=fun c hc hc'=>by
   rcases f1 c hc with g|g|g
   ·exact d12 c g hc'
   ·have:=r2.lt c hc';have:=List.mem_singleton.1 g;omega
   ·have:=r2.lt c hc';simp only[aJ] at g;omega
  have r22:ah h2 u2 (List.replicate i ([]:List Ab.Timer)) G2:=aK kp1 (dU r2) fun c hc hc'=>d12 c hc' hc
  have o22:Own (h.n+1+1) h2 G2:=(bX kp1 (gy (⟨o2,r2.lt⟩:bU _ _ _)) fun c hc hc'=>d12 c hc' hc).1
  (repeat' first|refine vs ?_|fail)
  have rf:=(gu (h:=h2.upd (h.n+1) ⟨[.int .i64 0,w1,u2,.aA],0,0⟩) (α:=Ab.Timer) (w:=3) rfl)
  have rf1:=rf.1
  have rf2:=rf.2 (h.n+1+1) (by simp only[aN];omega)
  have p12:Own (h.n+1+1) (h2.upd (h.n+1) ⟨[.int .i64 0,w1,u2,.aA],0,0⟩) F1:=aY
  have q12:ah (h2.upd (h.n+1) ⟨[.int .i64 0,w1,u2,.aA],0,0⟩) w1 (List.replicate i ([]:List Ab.Timer)++[[]]) F1:=aB
  have r23:ah (h2.upd (h.n+1) ⟨[.int .i64 0,w1,u2,.aA],0,0⟩) u2 (List.replicate i ([]:List Ab.Timer)) G2:=aB
  have o23:Own (h.n+1+1) (h2.upd (h.n+1) ⟨[.int .i64 0,w1,u2,.aA],0,0⟩) G2:=aY
  refine iC (n:=h.n+1+1) (xs:=List.replicate i ([]:List Ab.Timer)) (Fx:=G2) (a:=[]) aB ⟨_,rfl,rf1⟩ (iK (aY) rf2 (Nat.le_refl _) ng) aV rfl ?_ ?_ ?_
  ·simp;omega
  ·simp;omega
  intro w2 h3 F2 ek2 kp2 q2 p2 f2
  have n3:=kp2.1
  simp only[aJ,aN] at n3
  have q13:ah h3 w1 (List.replicate i ([]:List Ab.Timer)++[[]]) F1:=aK kp2 (dU q12) d1
  have p13:Own (h.n+1+1) h3 F1:=(bX kp2 (gy (⟨p12,q12.lt⟩:bU _ _ _)) d1).1
  have d2:∀ c∈F1,c ∉ F2:=fun c hc hc'=>by
   rcases f2 c hc' with g|g|g
   ·exact d1 c hc g
   ·have:=q12.lt c hc;have:=List.mem_singleton.1 g;simp only[aN] at this;simp only[aN] at *;omega
   ·have:=q12.lt c hc;simp only[aJ,aN] at g this;omega
  (repeat' first|refine vs ?_|fail)
  exact⟨by omega,w1,w2,F1,F2,rfl,by omega,aO,aO,Ext.upd (ek2 h (Ext.push (Ext.upd (ek1 h (e1.push _) (by omega)) (show h.n≤h.n+1 by omega) _) _) (by omega)) (by(try simp only[aJ,aN]);omega) _,by simp only[aN];omega,by rw[List.replicate_succ'];exact aB,by rw[List.replicate_succ'];exact aB,aY,aY,d2⟩
 ·have:i=8:=by omega
  subst this
  (repeat' first|refine vs ?_|fail)
  exact⟨rfl,_,rfl,aI,_,_,rfl,⟨_,_,_,_,_,[],rfl,rfl,aB,aB,ah.aA⟩,((iI gN (iI gN WU fun _ _ h=>absurd h List.not_mem_nil) (Vj d12 fun _ _ h=>absurd h List.not_mem_nil)).1:Own (h.n+1+1) _ _).mono (by omega) fun _ _=>rfl⟩
theorem aaF {h:AH} {a b:Int}:aP Tryz.prog El [.int .i64 a,.int .i64 b] h (.agg (Bucket.cs ⟨a,b,b,0⟩)):=by
 refine reader (aaT _ _) (by simp[old,olds,Bucket.cs]) ?_
 unfold OG
 (repeat' first|refine vs ?_|fail)
 exact pv rfl
end Go.Proofs.YtcgjihfngdhjjaaGreat
end
section
set_option maxHeartbeats 2000000
namespace Go.Proofs.YtcgjihfngdhjjaaGreat
open Go Go.Ab
section
def OB (x0 x1:AV):Prog:=.op (.alloc [.int .i64 0,.int .i64 0,.bool false]) fun a=>.loop [.int .i64 0] (fun b=>Ln 0 x0 fun c=>Bn .lss (g b 0) c fun c=>.ite c (Ix 3 x0 (g b 0) fun c=>Lg 0 c fun c=>Bn .eql c x1 fun c=>.ite c (Ix 3 x0 (g b 0) fun b=>Ld 3 b fun b=>.op (.st 3 a b) fun _=>.fin [.cn 3 a,.val (.bool true)]) (Bn .add (g b 0) (.int .i64 1) fun a=>.leaf 0 [a])) (.leaf 2 [g b 0])) fun b c=>aC b 1 (.leaf 1 c) (aC b 2 (.op (.build [.int .i64 0,.int .i64 0,.bool false] []) fun b=>.op (.st 3 a b) fun _=>.fin [.cn 3 a,.val (.bool false)]) .bad)
theorem aaP (x0 x1:AV):CC Tryz.prog rH [x0,x1] (OB x0 x1):=cc Tryz.func273 [0,1,4,6] (fun _=>[])
def Pf (x0 x1 x2:AV):Prog:=.op (.box x1) fun a=>Bn .lss x2 (.int .i64 1) fun b=>.ite b (.op (.aS 3 0 [] []) fun a=>.op (.app 3 24 a x0) fun a=>.fin [.val a,.val (.int .i64 0)]) (.op (.aS 3 0 [] []) fun b=>.loop [b,.int .i64 0] (fun b=>Ln 0 x0 fun c=>Bn .lss (g b 1) c fun c=>.ite c (Ix 3 x0 (g b 1) fun c=>Lg 0 c fun c=>Lg 0 a fun a=>Bn .neq c a fun a=>.scope (.ite a (Ix 3 x0 (g b 1) fun a=>Ld 3 a fun a=>.op (.aS 3 1 [.int .i64 0,.int .i64 0,.bool false] [(0,3,a)]) fun a=>.op (.app 3 24 (g b 0) a) fun a=>.leaf 0 [a]) (.leaf 0 [g b 0])) (fun a=>Bn .add (g b 1) (.int .i64 1) fun b=>.leaf 0 [g a 0,b]) fun a b=>aC a 1 (.leaf 1 b) .bad) (.leaf 2 [g b 0,g b 1])) fun b c=>aC b 1 (.leaf 1 c) (aC b 2 (Ld 3 a fun a=>.op (.aS 3 1 [.int .i64 0,.int .i64 0,.bool false] [(0,3,a)]) fun a=>.op (.app 3 24 (g c 0) a) fun a=>.loop [a,.int .i64 0] (fun a=>Ln 0 (g a 0) fun b=>Bn .gtr b x2 fun b=>.ite b (Ix 3 (g a 0) (.int .i64 0) fun b=>Lg 0 b fun b=>.op (.aS 3 0 [] []) fun c=>.op (.slc 3 (g a 0) (some (.int .i64 1)) none none) fun a=>.op (.app 3 24 c a) fun a=>.leaf 0 [a,b]) (.leaf 4 [g a 0,g a 1])) fun a b=>aC a 1 (.leaf 1 b) (aC a 4 (.fin [.val (g b 0),.val (g b 1)]) .bad)) .bad))
theorem abz (x0 x1 x2:AV):CC Tryz.prog J3 [x0,x1,x2] (Pf x0 x1 x2):=cc Tryz.func247 [0,2,4,8,9,10] (fun r=>if r=7 then[(0,[]),(1,[]),(2,[]),(3,[]),(4,[]),(5,[]),(6,[]),(7,[])] else[])
end
def vOf (xs:List bO) (k:Int):bO × Bool:=match xs.find? (isT k) with
 |some v=>(v,true)
 |none=>(⟨0,0,false⟩,false)
theorem aaE {h:AH} {xs:List bO} {x0:AV} {F:List Nat} {k:Int} (r:ah h x0 xs F):aP Tryz.prog rH [x0,.int .i64 k] h (.tup [.agg (vOf xs k).1.cs,.bool (vOf xs k).2]):=by
 refine reader (aaP _ _) (by simp only[old,olds,bO.cs,and_self]) ?_
 unfold OB
 have hsm:=r.small
 refine iH (aX xs.length (fun i vs h1=>vs=[.int .i64 (i:Int)]∧i≤xs.length∧h1=h.push ⟨[.int .i64 0,.int .i64 0,.bool false],0,0⟩∧xs.find? (isT k)=(xs.drop i).find? (isT k)) ⟨rfl,by omega,rfl,by simp⟩ ?_)
 rintro i vs h1 _ ⟨rfl,hi,rfl,hf⟩
 simp only[g0]
 refine eG r (ig (fun hlt=>?_) (fun hge=>?_))
 ·obtain⟨x,hx,hd,_⟩:=aU (show i < xs.length by omega)
  rw[hd,List.find?_cons] at hf
  (repeat' first|refine vs ?_|(refine br ?_ ?_<;>first|exact bx|intro _)|((with_reducible refine bB ?_);((refine ix ?_);rintro _ _ _ _ _ ⟨rfl,rfl⟩ _))|fail)
  ·refine⟨rfl,?_,(Ext.refl _).push _⟩
   simp_all [vOf,isT,splice,bO.cs]
  ·refine⟨by omega,rfl,by omega,rfl,?_⟩
   simp_all [isT]
 ·have:i=xs.length:=by omega
  subst this
  simp at hf
  (repeat' first|refine vs ?_|fail)
  refine⟨rfl,?_,(Ext.refl _).push _⟩
  have:xs.find? (isT k)=none:=by simpa using hf
  simp[vOf,this,splice,bO.cs]
theorem Uh {α:Type} [Flat α] {h:AH} {v:AV} {xs:List α} {F:List Nat} (r:ah h v xs F):F.tail=[]:=by
 rcases r.flat with⟨_,_,rfl⟩|⟨b,_,_,_,rfl,_⟩<;>rfl
def jK (xs:List bO) (v:bO):List bO:=(xs.filter fun x=>!isT v.trace x)++[v]
def gone (l:List bO) (d:Nat):Int:=match d with
 |0=>0
 |d+1=>match l[d]? with
  |some v=>v.trace
  |none=>0
def rem (xs:List bO) (v:bO) (most:Int):List bO × Int:=
 if most < 1 then(xs,0) else((jK xs v).drop ((jK xs v).length - most.toNat),gone (jK xs v) ((jK xs v).length - most.toNat))
theorem agx {l:List bO} {d:Nat} {x:bO} (hx:l[d]? =some x):gone l (d+1)=x.trace:=by simp[gone,hx]
theorem OY {h:AH} {xs:List bO} {x0:AV} {F:List Nat} {v:bO} {m:Int} (r:ah h x0 xs F) (hsz:xs.length≤1048576):
  bq Tryz.prog J3 [x0,.agg v.cs,.int .i64 m] h fun u h'=>Ext h h'∧∃ u0 F',u= .tup [u0,.int .i64 (rem xs v m).2]∧ah h' u0 (rem xs v m).1 F'∧Own h.n h' F':=by
 refine abz _ _ _ ?_
 unfold Pf
 refine tC rfl ?_
 have hf:=Uh r
 refine ig (fun hm=>dL ?_) (fun hm=>dO ?_)
 ·refine zl rfl (by decide) rfl ?_
  obtain⟨re,oe⟩:=gu (h:=h.push ⟨v.cs,0,0⟩) (α:=bO) (w:=3) rfl
  refine tF (n:=h.n+1) re (r.ext aI) (by rw[hf];simpa using oe (h.n+1) (by simp)) (by simp) rfl (by simp;omega) (by simp;omega) ?_
  intro v1 h1 F1 k1 r1 o1
  refine Wp ⟨rfl,_,rfl,k1.ext aI (by simp),v1,F1,?_,?_,o1.mono (by omega) fun _ _=>rfl⟩
  ·simp[rem,hm]
  ·simpa[rem,hm] using r1
 ·refine zl rfl (by decide) rfl ?_
  obtain⟨re,oe⟩:=gu (h:=h.push ⟨v.cs,0,0⟩) (α:=bO) (w:=3) rfl
  refine aX xs.length (fun i vs h1=>∃ va F',vs=[va,.int .i64 (i:Int)]∧i≤xs.length∧Ext (h.push ⟨v.cs,0,0⟩) h1∧ah h1 va ((xs.take i).filter fun x=>!isT v.trace x) F'∧Own (h.n+1) h1 F') ⟨_,_,rfl,by omega,aI,re,oe _ (by simp)⟩ ?_
  rintro i vs h1 _ ⟨va,F',rfl,hi,e,ra,oa⟩
  simp only[g0,g1]
  have a1:At h1 h.n 0 v.cs:=oV.ext e
  have E1:Ext h h1:=Ext.trans ((Ext.refl h).push _) e
  refine eG r (ig (fun hlt=>?_) (fun hge=>?_))
  ·obtain⟨x,hx,_,htk⟩:=aU (show i < xs.length by omega)
   have hfl:((xs.take i).filter fun x=>!isT v.trace x).length≤(xs.take i).length:=List.length_filter_le _ _
   have htl:(xs.take i).length=i:=by simp;omega
   have hn1:=e.1
   have hE:(xs.take (i+1)).filter (fun x=>!isT v.trace x)=(xs.take i).filter (fun x=>!isT v.trace x)++(if isT v.trace x=true then[] else[x]):=by
    rw[htk,List.filter_append];by_cases hh:isT v.trace x=true<;>simp[hh]
   (repeat' first|refine vs ?_|(refine br ?_ ?_<;>first|exact bx|intro _)|((with_reducible refine bB ?_);((refine ix ?_);rintro _ _ _ _ _ ⟨rfl,rfl⟩ _))|fail)
   ·rename_i hne _ _ _ _
    refine tF (n:=h.n+1) (ra.ext aI) (kX (n:=1) (xs:=[x]) rfl (by decide) (qH ⟨rfl,rfl⟩)) (by simpa using oa.ext aI ra.lt) (by simp at hn1 ⊢;omega) rfl (by simp;omega) (by simp;omega) ?_
    intro v2 h2 F2 kp rv ov
    (repeat' first|refine vs ?_|fail)
    refine⟨by omega,v2,F2,rfl,by omega,kp.ext (Ext.trans e ((Ext.refl _).push _)) fun b hb=>by have:=(oa.2 b hb).1;simpa using this,?_,ov⟩
    rw[hE]
    have: ¬ isT v.trace x=true:=by simp[isT];assumption
    rw[if_neg this];exact rv
   ·refine⟨by omega,va,F',rfl,by omega,e,?_,oa⟩
    rw[hE]
    have:isT v.trace x=true:=by simp[isT];assumption
    rw[if_pos this,List.append_nil];exact ra
  ·have:i=xs.length:=by omega
   subst this
   rw[List.take_length] at ra
   have hfl:(xs.filter fun x=>!isT v.trace x).length≤xs.length:=List.length_filter_le _ _
   have hn1:=e.1
   (repeat' first|refine vs ?_|refine gS ?_|fail)
   refine tF (n:=h.n+1) (ra.ext aI) (kX (n:=1) (xs:=[v]) rfl (by decide) (qH ⟨rfl,rfl⟩)) (by simpa using oa.ext aI ra.lt) (by simp at hn1 ⊢;omega) rfl (by simp;omega) (by simp;omega) ?_
   intro v3 h3 F3 k3 r3 o3
   have e3:Ext h h3:=k3.ext (Ext.trans E1 ((Ext.refl _).push _)) fun b hb=>by have:=(oa.2 b hb).1;omega
   have hL:(jK xs v).length≤1048577:=by simp[jK];omega
   change ah h3 v3 (jK xs v) F3 at r3
   refine mo (fun k vs h4=>∃ d va F4,vs=[va,.int .i64 (gone (jK xs v) d)]∧k=(jK xs v).length - d∧d≤(jK xs v).length - m.toNat∧Ext h h4∧ah h4 va ((jK xs v).drop d) F4∧Own h.n h4 F4) (jK xs v).length ⟨0,v3,F3,rfl,rfl,by omega,e3,r3,o3.mono (by omega) fun _ _=>rfl⟩ ?_
   rintro k vs h4 ⟨d,va,F4,rfl,rfl,hd,e4,r4,o4⟩
   simp only[g0,g1]
   refine eG r4 ?_
   rw[List.length_drop]
   refine zX (fun hgt=>?_) (fun hle=>?_)
   ·obtain⟨x,hx,hdr,_⟩:=aU (show d < (jK xs v).length by omega)
    rw[hdr] at r4
    have h0:(x::(jK xs v).drop (d+1))[(0:Int).toNat]? =some x:=rfl
    refine dL (Ct r4 (by decide) h0 rfl ?_)
    rintro b o cs Fi a5 ⟨rfl,rfl⟩ _
    clear a1 e3 E1 e
    (repeat' first|refine vs ?_|fail)
    obtain⟨re,oe⟩:=gu (h:=h4) (α:=bO) (w:=3) rfl
    refine aiO rfl (r4.ext aI) (o4.ext aI r4.lt) fun u r5=>?_
    refine tF (n:=h.n) re r5 (by rw[Uh r5];simpa using oe h.n e4.1) (by have:=e4.1;simp;omega) rfl (by simp;omega) (by simp;omega) ?_
    intro v6 h6 F6 k6 r6 o6
    (repeat' first|refine vs ?_|fail)
    refine⟨_,?_,d+1,v6,F6,by rw[agx hx],rfl,by omega,k6.ext (e4.push _) (by have:=e4.1;simp;omega),by simpa using r6,o6⟩
    omega
   ·have hde:d=(jK xs v).length - m.toNat:=by omega
    (repeat' first|refine vs ?_|fail)
    refine⟨rfl,_,rfl,e4,va,F4,?_,?_,o4⟩
    ·rw[hde];simp[rem,hm,g]
    ·rw[hde] at r4;simpa[rem,hm] using r4
section
variable{P:Program} {h:AH} {Q:Nat→List AV→AH→Prop} {k:AV→Prog}
end
end Go.Proofs.YtcgjihfngdhjjaaGreat
end
section
set_option maxHeartbeats 4000000
namespace Go.Proofs.YtcgjihfngdhjjaaGreat
open Go Go.Ab
section
def RJ (x0:AV):Prog:=.op (.box x0) fun a=>.op (.fad 22 a) fun a=>Lg 0 a fun a=>.fin [.val a]
theorem aea (x0:AV):CC Tryz.prog wH [x0] (RJ x0):=cc Tryz.func19
def S9 (x0:AV):Prog:=.op (.box x0) fun a=>Lg 29 a fun a=>Ln 0 a fun b=>.loop [.int .i64 0,.int .i64 0] (fun c=>Bn .lss (g c 1) b fun b=>.ite b (Ix 12 a (g c 1) fun a=>Ld 12 a fun a=>.op (.alloc ji) fun b=>.op (.st 12 b a) fun _=>Lg 0 b fun a=>Bn .neq a (.int .i64 0) fun a=>.scope (.ite a (Bn .add (g c 0) (.int .i64 1) fun a=>.leaf 0 [a]) (.leaf 0 [g c 0])) (fun a=>Bn .add (g c 1) (.int .i64 1) fun b=>.leaf 0 [g a 0,b]) fun a b=>aC a 1 (.leaf 1 b) .bad) (.leaf 2 [g c 0,g c 1])) fun a b=>aC a 1 (.leaf 1 b) (aC a 2 (.fin [.val (g b 0)]) .bad)
theorem afi (x0:AV):CC Tryz.prog FY [x0] (S9 x0):=cc Tryz.func14 [3,7,8,9] (fun _=>[])
end
theorem Q5 {h:AH} {x:Wld} {cs:List AV} {F:List Nat} (r:Cel.rep h x cs F):aP Tryz.prog wH [.agg cs] h (.int .i64 x.w.now):=by
 obtain⟨v0,v1,v2,v3,v4,v5,v6,v7,v8,v9,v10,F0,F1,F2,F3,F4,F5,F6,F7,F8,F9,F10,rfl,rfl,r0,r1,r2,r3,r4,r5,r6,r7,r8,r9,r10⟩:=r
 refine reader (aea _) (by simp only[old]) ?_
 unfold RJ
 (repeat' first|refine vs ?_|fail)
 exact pi rfl
def jZ:List Task→Nat
 |[]=>0
 |t::l=>(if t.op≠0 then 1 else 0)+jZ l
theorem Vm:∀ l m:List Task,jZ (l++m)=jZ l+jZ m
 |[],m=>by simp[jZ]
 |t::l,m=>by simp only[List.cons_append,jZ,Vm l m];omega
theorem ajA {l:List Task} {i:Nat} {t:Task} (ht:l.take (i+1)=l.take i++[t]):jZ (l.take (i+1))=jZ (l.take i)+(if t.op≠0 then 1 else 0):=by rw[ht,Vm];simp[jZ]
theorem Wm:∀ l:List Task,jZ l≤l.length
 |[]=>by simp[jZ]
 |t::l=>by have:=Wm l;simp only[jZ,List.length_cons];split<;>omega
theorem ae6 {h:AH} {x:Wld} {cs:List AV} {F:List Nat} (r:Cel.rep h x cs F):aP Tryz.prog FY [.agg cs] h (.int .i64 (jZ x.tasks:Nat)):=by
 obtain⟨v0,v1,v2,v3,v4,v5,v6,v7,v8,v9,v10,F0,F1,F2,F3,F4,F5,F6,F7,F8,F9,F10,rfl,rfl,r0,r1,r2,r3,r4,r5,r6,r7,r8,r9,r10⟩:=r
 refine reader (afi _) (by simp only[old]) ?_
 unfold S9
 have hl9:=r9.small
 (repeat' first|refine vs ?_|fail)
 refine aX x.tasks.length (fun i vs h1=>vs=[.int .i64 (jZ (x.tasks.take i):Nat),.int .i64 (i:Int)]∧i≤x.tasks.length∧Ext (h.push ⟨(x.cs v0 v1 v2 v3 v4 v5 v6 v7 v8 v9 v10),0,0⟩) h1) ⟨rfl,Nat.zero_le _,aI⟩ ?_
 rintro i vs h1 _ ⟨rfl,hi,e1⟩
 have n1:=e1.1
 simp only[aJ] at n1
 have hb:=Wm (x.tasks.take i)
 rw[List.length_take] at hb
 simp only[g0,g1]
 refine br (fun hlt=>?_) (fun hge=>?_)
 ·obtain⟨t,hx,-,htk⟩:=aU (show i < x.tasks.length by omega)
  have hs:=ajA htk
  (repeat' first|refine vs ?_|(refine br ?_ ?_<;>first|exact bx|intro _)|((with_reducible refine bB ?_);((refine ix ?_);rintro _ _ _ _ _ ⟨_,_,_,_,rfl,rfl,_,_⟩ _))|fail)
  ·rename_i hne
   rw[if_pos hne] at hs
   exact⟨by omega,by rw[hs];rfl,by omega,aI⟩
  ·rename_i he
   rw[if_neg (by simpa using he)] at hs
   exact⟨by omega,by rw[hs];rfl,by omega,aI⟩
 ·have e:i=x.tasks.length:=by omega
  rw[e,List.take_length]
  (repeat' first|refine vs ?_|fail)
  exact pi rfl
end Go.Proofs.YtcgjihfngdhjjaaGreat
end
