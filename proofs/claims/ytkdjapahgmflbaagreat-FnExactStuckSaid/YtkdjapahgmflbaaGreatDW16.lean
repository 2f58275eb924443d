import Derived.Test.YtkdjapahgmflbaaGreatDKW1
set_option linter.unusedSimpArgs false
set_option linter.unusedVariables false
set_option maxHeartbeats 4000000
namespace Go.Proofs.YtkdjapahgmflbaaGreat
open Go Go.Ab
section
def Z8 (x0 x1 x2:AV):Prog:=Ln 0 x0 fun a=>Ln 0 x1 fun b=>Bn .neq a b fun a=>.ite a (.fin [.val (.bool false)]) (Ln 0 x0 fun a=>.loop [.int .i64 0] (fun b=>Bn .lss (g b 0) a fun a=>.ite a (Ix 7 x0 (g b 0) fun a=>Ld 7 a fun a=>.op (.alloc iO) fun c=>.op (.st 7 c a) fun _=>Ix 7 x1 (g b 0) fun a=>Ld 7 a fun a=>.op (.alloc iO) fun d=>.op (.st 7 d a) fun _=>Ld 7 c fun a=>Ld 7 d fun c=>.op (.iC x2 [a,c]) fun a=>.op (.una .not a) fun a=>.ite a (.fin [.val (.bool false)]) (Bn .add (g b 0) (.int .i64 1) fun a=>.leaf 0 [a])) (.leaf 2 [g b 0])) fun a b=>aB a 1 (.leaf 1 b) (aB a 2 (.fin [.val (.bool true)]) .bad))
theorem aad (x0 x1 x2:AV):CC Tryz.prog CX [x0,x1,x2] (Z8 x0 x1 x2):=cc Tryz.func372 [1,2,15,16,17] (fun _=>[])
def Qn (x0 x1:AV):Prog:=.op (.box x0) fun a=>.op (.box x1) fun b=>Lg 0 a fun c=>Lg 0 b fun d=>Bn .eql c d fun c=>Gf c true 1 a fun d=>Gf c true 1 b fun e=>.gop c true (.bin 0 .eql d e) fun d=>Pk c d (.bool false) fun c=>.gop c true (.fad 2 a) fun d=>.gop c true (.ldn 6 d) fun d=>.gop c true (.fad 2 b) fun e=>.gop c true (.ldn 6 e) fun e=>.gop c true (.call oI [d,e]) fun d=>Pk c d (.bool false) fun c=>Gf c true 8 a fun d=>Gf c true 8 b fun e=>.gop c true (.bin 0 .eql d e) fun d=>Pk c d (.bool false) fun c=>Gf c true 9 a fun d=>Gf c true 9 b fun e=>.gop c true (.bin 0 .eql d e) fun d=>Pk c d (.bool false) fun c=>Gf c true 10 a fun d=>Gf c true 10 b fun e=>.gop c true (.call CX [d,e,.fn D7 []]) fun d=>Pk c d (.bool false) fun c=>Gf c true 11 a fun a=>Gf c true 11 b fun b=>.gop c true (.bin 0 .eql a b) fun a=>Pk c a (.bool false) fun a=>.fin [.val a]
theorem ady (x0 x1:AV):CC Tryz.prog D6 [x0,x1] (Qn x0 x1):=cc Tryz.func312
def TG (x0:AV):Prog:=.op (.box x0) fun a=>Lg 10 a fun b=>Ln 0 b fun c=>.loop [.int .i64 0] (fun d=>Bn .lss (g d 0) c fun c=>.ite c (Ix 7 b (g d 0) fun b=>Ld 7 b fun b=>.op (.alloc iO) fun c=>.op (.st 7 c b) fun _=>Ld 7 c fun b=>Cl xH [b] fun b=>.op (.una .not b) fun b=>Gf b false 0 c fun c=>Gf b false 9 a fun a=>.gop b false (.bin 0 .neq c a) fun a=>Pk b (.bool true) a fun a=>.ite a (.fin [.val (.bool false)]) (Bn .add (g d 0) (.int .i64 1) fun a=>.leaf 0 [a])) (.leaf 2 [g d 0])) fun b c=>aB b 1 (.leaf 1 c) (aB b 2 (Lg 1 a fun b=>Bn .eql b (.int .i64 3) fun b=>Lg 10 a fun a=>Ln 0 a fun a=>Bn .gtr a (.int .i64 0) fun a=>.op (.bin 2 .eql b a) fun a=>.fin [.val a]) .bad)
theorem ahG (x0:AV):CC Tryz.prog Fp [x0] (TG x0):=cc Tryz.func314 [1,6,7,8] (fun _=>[])
def TL (x0 x1:AV):Prog:=.op (.box x0) fun a=>Cl bq [x1,.int .i64 0,.int .i64 4] fun b=>.op (.una .not b) fun b=>Gf b false 1 a fun c=>.gop b false (.call bq [c,.int .i64 0,.int .i64 3]) fun c=>.gop b false (.una .not c) fun c=>Pk b (.bool true) c fun b=>Gf b false 11 a fun c=>.gop b false (.bin 0 .lss c (.int .i64 0)) fun c=>Pk b (.bool true) c fun b=>.ite b (.fin [.val (.bool false)]) (Lg 0 a fun b=>Bn .eql b (.int .i64 1) fun b=>.gop b true (.mv x1) fun c=>.gop b true (.bin 0 .lss c (.int .i64 3)) fun c=>Pk b c (.bool false) fun b=>Lg 0 a fun c=>Bn .eql c (.int .i64 2) fun c=>.gop c true (.mv x1) fun d=>.gop c true (.bin 0 .geq d (.int .i64 3)) fun d=>Pk c d (.bool false) fun c=>Lg 8 a fun d=>Bn .eql d (.int .i64 0) fun d=>Gf d true 9 a fun e=>.gop d true (.bin 0 .eql e (.int .i64 0)) fun e=>Pk d e (.bool false) fun d=>Lg 8 a fun e=>Cl bq [e,.int .i64 1,.int .i64 999] fun e=>Gf e true 9 a fun f=>.gop e true (.bin 0 .geq f (.int .i64 1)) fun f=>Pk e f (.bool false) fun e=>Lg 0 a fun f=>Bn .eql f (.int .i64 0) fun f=>.ite f (Ld 12 a fun a=>.op (.build gJ []) fun b=>Cl D6 [a,b] fun a=>.fin [.val a]) (.ite b (.op (.fad 2 a) fun b=>Ld 6 b fun b=>Cl sO [b] fun b=>Gf b true 1 a fun c=>.gop b true (.bin 0 .eql c (.int .i64 3)) fun c=>.gop b true (.mv c) fun c=>.gop c true (.mv e) fun e=>.gop b true (.pick c e (.bool false)) fun c=>.gop b true (.mv c) fun c=>Gf c false 1 a fun e=>.gop c false (.bin 0 .neq e (.int .i64 3)) fun e=>.gop c false (.mv e) fun e=>.gop e true (.mv d) fun d=>.gop c false (.pick e d (.bool false)) fun d=>.gop b true (.pick c (.bool true) d) fun c=>Pk b c (.bool false) fun b=>Gf b true 10 a fun a=>.gop b true (.len 0 a) fun a=>.gop b true (.bin 0 .eql a (.int .i64 0)) fun a=>Pk b a (.bool false) fun a=>.fin [.val a]) (.ite c (.gop e true (.fad 2 a) fun b=>.gop e true (.ldn 6 b) fun b=>.gop e true (.build iZ []) fun c=>.gop e true (.call oI [b,c]) fun b=>Pk e b (.bool false) fun b=>.gop b true (.ldn 12 a) fun a=>.gop b true (.call Fp [a]) fun a=>Pk b a (.bool false) fun a=>.fin [.val a]) (.fin [.val (.bool false)]))))
theorem ahK (x0 x1:AV):CC Tryz.prog Fu [x0,x1] (TL x0 x1):=cc Tryz.func218
def OZ (x0:AV):Prog:=.op (.box x0) fun a=>Ld 6 a fun a=>.op (.build iZ []) fun b=>Cl xg [a,b] fun a=>.fin [.val a]
theorem abK (x0:AV):CC Tryz.prog wV [x0] (OZ x0):=cc Tryz.func348
def SL (x0 x1:AV):Prog:=.op (.box x0) fun a=>Lg 11 a fun b=>Bn .lss b (.int .i64 0) fun b=>Gf b false 1 a fun c=>.gop b false (.call bQ [c,.int .i64 0,.int .i64 3]) fun c=>.gop b false (.una .not c) fun c=>Pk b (.bool true) c fun b=>.gop b false (.mv x1) fun c=>.gop b false (.call bQ [c,.int .i64 0,.int .i64 4]) fun c=>.gop b false (.una .not c) fun c=>Pk b (.bool true) c fun b=>.ite b (.fin [.val (.bool false)]) (Lg 0 a fun b=>Bn .eql b (.int .i64 0) fun c=>.ite c (Lg 1 a fun b=>Bn .eql b (.int .i64 0) fun b=>.gop b true (.fad 2 a) fun c=>.gop b true (.ldn 6 c) fun c=>.gop b true (.call wV [c]) fun c=>Pk b c (.bool false) fun b=>Gf b true 8 a fun c=>.gop b true (.bin 0 .eql c (.int .i64 0)) fun c=>Pk b c (.bool false) fun b=>Gf b true 9 a fun c=>.gop b true (.bin 0 .eql c (.int .i64 0)) fun c=>Pk b c (.bool false) fun b=>Gf b true 10 a fun c=>.gop b true (.len 0 c) fun c=>.gop b true (.bin 0 .eql c (.int .i64 0)) fun c=>Pk b c (.bool false) fun b=>Gf b true 11 a fun a=>.gop b true (.bin 0 .eql a (.int .i64 0)) fun a=>Pk b a (.bool false) fun a=>.fin [.val a]) (Bn .eql b (.int .i64 1) fun c=>.ite c (Bn .geq x1 (.int .i64 3) fun b=>.gop b false (.fad 2 a) fun c=>.gop b false (.ldn 6 c) fun c=>.gop b false (.call sM [c]) fun c=>.gop b false (.una .not c) fun c=>Pk b (.bool true) c fun b=>Gf b false 10 a fun c=>.gop b false (.len 0 c) fun c=>.gop b false (.bin 0 .gtr c (.int .i64 0)) fun c=>Pk b (.bool true) c fun b=>.ite b (.fin [.val (.bool false)]) (Lg 1 a fun b=>Bn .eql b (.int .i64 3) fun b=>.ite b (Lg 8 a fun b=>Cl bQ [b,.int .i64 1,.int .i64 999] fun b=>Gf b true 9 a fun a=>.gop b true (.bin 0 .geq a (.int .i64 1)) fun a=>Pk b a (.bool false) fun a=>.fin [.val a]) (Lg 8 a fun b=>Bn .eql b (.int .i64 0) fun b=>Gf b true 9 a fun a=>.gop b true (.bin 0 .eql a (.int .i64 0)) fun a=>Pk b a (.bool false) fun a=>.fin [.val a]))) (Bn .eql b (.int .i64 2) fun b=>.ite b (.loop [.int .i64 0] (fun b=>Lg 10 a fun c=>Ln 0 c fun c=>Bn .lss (g b 0) c fun c=>.ite c (Lg 10 a fun c=>Ix 7 c (g b 0) fun c=>Ld 7 c fun c=>Cl sN [c] fun c=>.op (.una .not c) fun c=>Gf c false 10 a fun d=>.gop c false (.mv (g b 0)) fun e=>.gop c false (.idx 7 d e) fun d=>Gf c false 0 d fun d=>Gf c false 9 a fun a=>.gop c false (.bin 0 .neq d a) fun a=>Pk c (.bool true) a fun a=>.ite a (.fin [.val (.bool false)]) (Bn .add (g b 0) (.int .i64 1) fun a=>.leaf 0 [a])) (.leaf 3 [g b 0])) fun b c=>aB b 1 (.leaf 1 c) (aB b 3 (Bn .geq x1 (.int .i64 3) fun b=>.gop b true (.fad 2 a) fun c=>.gop b true (.ldn 6 c) fun c=>.gop b true (.call wV [c]) fun c=>Pk b c (.bool false) fun b=>Gf b true 8 a fun c=>.gop b true (.call bQ [c,.int .i64 1,.int .i64 999]) fun c=>Pk b c (.bool false) fun b=>Gf b true 9 a fun c=>.gop b true (.bin 0 .geq c (.int .i64 1)) fun c=>Pk b c (.bool false) fun b=>Gf b true 1 a fun c=>.gop b true (.bin 0 .eql c (.int .i64 3)) fun c=>Gf b true 10 a fun a=>.gop b true (.len 0 a) fun a=>.gop b true (.bin 0 .gtr a (.int .i64 0)) fun a=>.gop b true (.bin 2 .eql c a) fun a=>Pk b a (.bool false) fun a=>.fin [.val a]) .bad)) (.fin [.val (.bool false)]))))
theorem ag9 (x0 x1:AV):CC Tryz.prog EZ [x0,x1] (SL x0 x1):=cc Tryz.func269 [1,2,5] (fun r=>if r=16 then[(0,[]),(1,[]),(2,[]),(3,[]),(4,[]),(5,[]),(6,[]),(7,[]),(8,[]),(9,[]),(10,[]),(11,[]),(12,[]),(13,[]),(14,[]),(15,[]),(16,[]),(17,[])] else[])
end
def yV:Span:=⟨0,0,0,0,false,[]⟩
def MU:Task:=⟨0,0,yV,0,0,[],0⟩
theorem Xq {h:AH} {α:Type} [Cel α]:au h .aC ([]:List α) []:=au.aC
def MN (t:Task):Prop:=(∀ x∈t.hand,lH x∧x.stamp=t.stamp)∧(t.pc=3↔0 < (t.hand.length:Int))
def yN (t : Task) (k : Int) : Prop := 0 ≤ t.h ∧ (0 ≤ t.pc ∧ t.pc ≤ 3) ∧ (0 ≤ k ∧ k ≤ 4) ∧
  (t = MU ∨
   (t.op = 1 ∧ k < 3 ∧ qG t.s ∧ (t.hand.length : Int) = 0 ∧ ((t.pc = 3 ∧ (1 ≤ t.trace ∧ t.trace ≤ 999) ∧ 1 ≤ t.stamp) ∨ (t.pc ≠ 3 ∧ t.trace = 0 ∧ t.stamp = 0))) ∨
   (t.op = 2 ∧ 3 ≤ k ∧ MN t ∧ t.s = yV ∧ (1 ≤ t.trace ∧ t.trace ≤ 999) ∧ 1 ≤ t.stamp))
theorem akS {a b:Task}:a=b↔a.op=b.op∧a.pc=b.pc∧a.s=b.s∧a.trace=b.trace∧a.stamp=b.stamp∧a.hand=b.hand∧a.h=b.h:=by
 cases a;cases b;simp
theorem Z5 {h:AH} {xs ys:List Itm} {v0 v1:AV} {F G:List Nat} (r:au h v0 xs F) (r':au h v1 ys G):aM Tryz.prog CX [v0,v1,.fn D7 []] h (.bool (bp (xs=ys))):=by
 refine reader (aad _ _ _) (by simp only[old]) ?_
 refine akJ (w:=7) rfl rfl r r' ?_
 rintro x _ y cs cs' F F' h' _ ⟨w,rfl,q⟩ ⟨w',rfl,q'⟩
 exact acP q q'
theorem acM {h:AH} {a b:Task} {v0 v1 u0 u1:AV} {F0 F1 G0 G1:List Nat} (r0:au h v0 a.s.attrs F0) (r1:au h v1 a.hand F1) (q0:au h u0 b.s.attrs G0) (q1:au h u1 b.hand G1):aM Tryz.prog D6 [.agg (a.cs v0 v1),.agg (b.cs u0 u1)] h (.bool (bp (a=b))):=by
 refine reader (ady _ _) (by simp only[old]) ?_
 unfold Qn
 (repeat' first|refine vs ?_|(refine br ?_ ?_<;>first|exact bx|intro _)|((with_reducible refine aA oI ?_);(refine aS (DF (a:=a.s) (b:=b.s) ah ah) ?_ ?_<;>intro hn))|((with_reducible refine aA CX ?_);(refine aS (Z5 ah ah) ?_ ?_<;>intro hn))|fail)
 all_goals first
  |(refine pf ?_;rintro rfl;contradiction)
  |(refine pt ?_;cases a;cases b;simp_all;done)
theorem agF {h:AH} {t:Task} {v0 v1:AV} {F1:List Nat} (ok:∀ x∈t.hand,Cel.ok x) (hs:t.hand.length+szs t.hand≤67108864) (r1:au h v1 t.hand F1):aM Tryz.prog Fp [.agg (t.cs v0 v1)] h (.bool (bp (MN t))):=by
 refine reader (ahG _) (by simp only[old]) ?_
 unfold TG
 have hsm:=r1.small
 (repeat' first|refine vs ?_|fail)
 refine aT t.hand.length (fun i vs h1=>vs=[.int .i64 (i:Int)]∧i≤t.hand.length∧Ext (h.push ⟨t.cs v0 v1,0,0⟩) h1∧cu t.hand (fun _ x=>lH x∧x.stamp=t.stamp) i) ⟨rfl,Nat.zero_le _,aD,up0⟩ ?_
 rintro i vs h1 _ ⟨rfl,hi,e1,hu⟩
 simp only[g0]
 refine br (fun hlt=>?_) (fun hge=>?_)
 ·obtain⟨x,hx,-,-⟩:=aP (show i < t.hand.length by omega)
  have hm:=List.mem_of_getElem? hx
  have h5:=bC hm
  (repeat' first|refine vs ?_|(refine br ?_ ?_<;>first|exact bx|intro _)|((with_reducible refine aA xH ?_);(refine aS (Sv (ok x hm).2 (by omega) ah) ?_ ?_<;>intro hn))|((with_reducible refine aY ?_);((refine ix ?_);rintro _ _ _ _ _ ⟨_,rfl,_⟩ _))|fail)
  all_goals first
   |exact pf fun k=>jP hx (by rintro⟨a1,a2⟩;contradiction) k.1
   |exact⟨by omega,rfl,by omega,aD,upS hu hx ⟨hn,by omega⟩⟩
 ·have e:i=t.hand.length:=by omega
  rw[e] at hu
  have hu:=fV hu
  (repeat' first|refine vs ?_|(refine br ?_ ?_<;>intro _<;>try(exfalso;contradiction))|fail)
  all_goals first
   |exact pt ⟨hu,by omega⟩
   |exact pf fun k=>by obtain⟨a1,a2⟩:=k;omega
theorem agH {h:AH} {t:Task} {k:Int} {v0 v1:AV} {F0 F1:List Nat} (ok:Cel.ok t) (hs:Sz.sz t≤67108864) (r0:au h v0 t.s.attrs F0) (r1:au h v1 t.hand F1):aM Tryz.prog Fu [.agg (t.cs v0 v1),.int .i64 k] h (.bool (bp (yN t k))):=by
 obtain⟨M8,YT,zy,Gl,Bj,GJ,Zd⟩:=ok
 have hs2:Sz.sz t=Sz.sz t.s+(t.hand.length+szs t.hand):=rfl
 refine reader (ahK _ _) (by simp only[old]) ?_
 unfold TL
 (repeat' first|refine vs ?_|(refine br ?_ ?_<;>first|exact bo|intro _)|((with_reducible refine aA bq ?_);(refine bU eZ ?_ ?_<;>intro hb<;>(first|replace hb:=dx hb|replace hb:=dz hb)<;>try(exfalso;omega)))|((with_reducible refine aA sO ?_);(refine aS (KA zy (by omega) ah) ?_ ?_<;>intro hn))|((with_reducible refine aA oI ?_);(refine aS (DF (a:=t.s) (b:=yV) ah ah) ?_ ?_<;>intro hn))|((with_reducible refine aA D6 ?_);(refine aS (acM (a:=t) (b:=MU) (u0:=.aC) (u1:=.aC) ah ah Xq Xq) ?_ ?_<;>intro hn))|((with_reducible refine aA Fp ?_);(refine aS (agF GJ (by omega) ah) ?_ ?_<;>intro hn))|fail)
 all_goals first
  |(refine pt ⟨by omega,by omega,by omega,?_⟩;first|exact .inl (by assumption)|exact .inr (.inl ⟨by omega,by omega,by assumption,by omega,by omega⟩)|exact .inr (.inr ⟨by omega,by omega,by assumption,by assumption,by omega,by omega⟩))
  |(refine pf ?_;rintro⟨a1,a2,a3,a4|⟨b1,b2,b3,b4,b5⟩|⟨b1,b2,b3,b4,b5,b6⟩⟩<;>first|contradiction|omega|(subst a4;contradiction))
theorem OM {h:AH} {s:Span} {v:AV} {F:List Nat} (r:au h v s.attrs F):aM Tryz.prog wV [.agg (s.cs v)] h (.bool (bp (s=yV))):=by
 refine reader (abK _) (by simp only[old]) ?_
 unfold OZ
 (repeat' first|refine vs ?_|((with_reducible refine aA xg ?_);refine aJ (PO (a:=s) (b:=yV) ah ah) ?_)|fail)
 exact pb rfl
theorem agf {h:AH} {t:Task} {k:Int} {v0 v1:AV} {F0 F1:List Nat} (ok:Cel.ok t) (hs:Sz.sz t≤67108864) (r0:au h v0 t.s.attrs F0) (r1:au h v1 t.hand F1):aM Tryz.prog EZ [.agg (t.cs v0 v1),.int .i64 k] h (.bool (bp (yN t k))):=by
 obtain⟨M8,YT,zy,Gl,Bj,GJ,Zd⟩:=ok
 have hs2:Sz.sz t=Sz.sz t.s+(t.hand.length+szs t.hand):=rfl
 have hsm:=r1.small
 have amc:(t.hand.length:Int)=0→t.hand=[]:=fun e=>List.length_eq_zero_iff.1 (by omega)
 refine reader (ag9 _ _) (by simp only[old]) ?_
 unfold SL
 (repeat' first|refine vs ?_|(refine br ?_ ?_<;>first|exact bx|intro _)|((with_reducible refine aA bQ ?_);(refine bU jr ?_ ?_<;>intro hb<;>(first|replace hb:=dx hb|replace hb:=dz hb)<;>try(exfalso;omega)))|((with_reducible refine aA sM ?_);(refine aS (Ky zy (by omega) ah) ?_ ?_<;>intro hn))|((with_reducible refine aA wV ?_);(refine aS (OM ah) ?_ ?_<;>intro hn))|fail)
 all_goals first
  |(refine pt ⟨by omega,by omega,by omega,?_⟩;first|exact .inl (akS.2 ⟨by assumption,by assumption,by assumption,by assumption,by assumption,amc (by assumption),by assumption⟩)|exact .inr (.inl ⟨by omega,by omega,by assumption,by omega,by omega⟩))
  |(refine pf ?_;rintro⟨a1,a2,a3,a4|⟨b1,b2,b3,b4,b5⟩|⟨b1,b2,b3,b4,b5,b6⟩⟩<;>first|contradiction|omega|(subst a4;contradiction))
  |skip
 refine aT t.hand.length (fun i vs h1=>vs=[.int .i64 (i:Int)]∧i≤t.hand.length∧Ext (h.push ⟨t.cs v0 v1,0,0⟩) h1∧cu t.hand (fun _ x=>lH x∧x.stamp=t.stamp) i) ⟨rfl,Nat.zero_le _,aD,up0⟩ ?_
 rintro i vs h1 _ ⟨rfl,hi,e1,hu⟩
 simp only[g0]
 refine vs ?_
 refine br (fun hlt=>?_) (fun hge=>?_)
 ·obtain⟨x,hx,-,-⟩:=aP (show i < t.hand.length by omega)
  have hm:=List.mem_of_getElem? hx
  have h5:=bC hm
  (repeat' first|refine vs ?_|(refine br ?_ ?_<;>first|exact bx|intro _)|((with_reducible refine aA sN ?_);(refine aS (Kz (GJ x hm).2 (by omega) ah) ?_ ?_<;>intro hn))|((with_reducible refine aY ?_);((refine ix ?_);rintro _ _ _ _ _ ⟨_,rfl,_⟩ _))|fail)
  all_goals first
   |(refine pf ?_;rintro⟨a1,a2,a3,a4|⟨b1,b2,b3,b4,b5⟩|⟨b1,b2,b3,b4,b5,b6⟩⟩<;>first|omega|(subst a4;simp_all [MU];done)|exact jP hx (by rintro⟨a1,a2⟩;contradiction) b3.1)
   |exact⟨by omega,rfl,by omega,aD,upS hu hx ⟨hn,by omega⟩⟩
 ·have e:i=t.hand.length:=by omega
  rw[e] at hu
  have hu:=fV hu
  (repeat' first|refine vs ?_|(refine br ?_ ?_<;>intro _<;>try(exfalso;contradiction))|((with_reducible refine aA bQ ?_);(refine bU jr ?_ ?_<;>intro hb<;>(first|replace hb:=dx hb|replace hb:=dz hb)<;>try(exfalso;omega)))|((with_reducible refine aA wV ?_);(refine aS (OM ah) ?_ ?_<;>intro hn))|fail)
  all_goals first
   |exact pt ⟨by omega,by omega,by omega,.inr (.inr ⟨by omega,by omega,⟨hu,by omega⟩,by assumption,by omega,by omega⟩)⟩
   |(refine pf ?_;rintro⟨a1,a2,a3,a4|⟨b1,b2,b3,b4,b5⟩|⟨b1,b2,⟨_,b3⟩,b4,b5,b6⟩⟩<;>first|contradiction|omega|(subst a4;contradiction))
end Go.Proofs.YtkdjapahgmflbaaGreat
