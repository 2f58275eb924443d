import Derived.Test.YtcgjihfngdhjjaaGreatDKW1
set_option linter.unusedSimpArgs false
set_option linter.unusedVariables false
set_option maxHeartbeats 4000000
namespace Go.Proofs.YtcgjihfngdhjjaaGreat
open Go Go.Ab
section
def ZM (x0 x1 x2:AV):Prog:=Ln 0 x0 fun a=>Ln 0 x1 fun b=>Bn .neq a b fun a=>.ite a (.fin [.val (.bool false)]) (Ln 0 x0 fun a=>.loop [.int .i64 0] (fun b=>Bn .lss (g b 0) a fun a=>.ite a (Ix 7 x0 (g b 0) fun a=>Ld 7 a fun a=>.op (.alloc pq) fun c=>.op (.st 7 c a) fun _=>Ix 7 x1 (g b 0) fun a=>Ld 7 a fun a=>.op (.alloc pq) fun d=>.op (.st 7 d a) fun _=>Ld 7 c fun a=>Ld 7 d fun c=>.op (.gW x2 [a,c]) fun a=>.op (.una .not a) fun a=>.ite a (.fin [.val (.bool false)]) (Bn .add (g b 0) (.int .i64 1) fun a=>.leaf 0 [a])) (.leaf 2 [g b 0])) fun a b=>aC a 1 (.leaf 1 b) (aC a 2 (.fin [.val (.bool true)]) .bad))
theorem ZO (x0 x1 x2:AV):CC Tryz.prog D9 [x0,x1,x2] (ZM x0 x1 x2):=cc Tryz.func238 [1,2,15,16,17] (fun _=>[])
def Pw (x0 x1:AV):Prog:=.op (.box x0) fun a=>.op (.box x1) fun b=>Lg 0 a fun c=>Lg 0 b fun d=>Bn .eql c d fun c=>Gf c true 1 a fun d=>Gf c true 1 b fun e=>.gop c true (.bin 0 .eql d e) fun d=>Pk c d (.bool false) fun c=>.gop c true (.fad 2 a) fun d=>.gop c true (.ldn 6 d) fun d=>.gop c true (.fad 2 b) fun e=>.gop c true (.ldn 6 e) fun e=>.gop c true (.call qA [d,e]) fun d=>Pk c d (.bool false) fun c=>Gf c true 8 a fun d=>Gf c true 8 b fun e=>.gop c true (.bin 0 .eql d e) fun d=>Pk c d (.bool false) fun c=>Gf c true 9 a fun d=>Gf c true 9 b fun e=>.gop c true (.bin 0 .eql d e) fun d=>Pk c d (.bool false) fun c=>Gf c true 10 a fun d=>Gf c true 10 b fun e=>.gop c true (.call D9 [d,e,.fn EC []]) fun d=>Pk c d (.bool false) fun c=>Gf c true 11 a fun a=>Gf c true 11 b fun b=>.gop c true (.bin 0 .eql a b) fun a=>Pk c a (.bool false) fun a=>.fin [.val a]
theorem abK (x0 x1:AV):CC Tryz.prog EB [x0,x1] (Pw x0 x1):=cc Tryz.func180
def RG (x0:AV):Prog:=.op (.box x0) fun a=>Lg 10 a fun b=>Ln 0 b fun c=>.loop [.int .i64 0] (fun d=>Bn .lss (g d 0) c fun c=>.ite c (Ix 7 b (g d 0) fun b=>Ld 7 b fun b=>.op (.alloc pq) fun c=>.op (.st 7 c b) fun _=>Ld 7 c fun b=>Cl yQ [b] fun b=>.op (.una .not b) fun b=>Gf b false 0 c fun c=>Gf b false 9 a fun a=>.gop b false (.bin 0 .neq c a) fun a=>Pk b (.bool true) a fun a=>.ite a (.fin [.val (.bool false)]) (Bn .add (g d 0) (.int .i64 1) fun a=>.leaf 0 [a])) (.leaf 2 [g d 0])) fun b c=>aC b 1 (.leaf 1 c) (aC b 2 (Lg 1 a fun b=>Bn .eql b (.int .i64 3) fun b=>Lg 10 a fun a=>Ln 0 a fun a=>Bn .gtr a (.int .i64 0) fun a=>.op (.bin 2 .eql b a) fun a=>.fin [.val a]) .bad)
theorem ad8 (x0:AV):CC Tryz.prog FD [x0] (RG x0):=cc Tryz.func181 [1,6,7,8] (fun _=>[])
def RL (x0 x1:AV):Prog:=.op (.box x0) fun a=>Cl bT [x1,.int .i64 0,.int .i64 4] fun b=>.op (.una .not b) fun b=>Gf b false 1 a fun c=>.gop b false (.call bT [c,.int .i64 0,.int .i64 3]) fun c=>.gop b false (.una .not c) fun c=>Pk b (.bool true) c fun b=>Gf b false 11 a fun c=>.gop b false (.bin 0 .lss c (.int .i64 0)) fun c=>Pk b (.bool true) c fun b=>.ite b (.fin [.val (.bool false)]) (Lg 0 a fun b=>Bn .eql b (.int .i64 1) fun b=>.gop b true (.mv x1) fun c=>.gop b true (.bin 0 .lss c (.int .i64 3)) fun c=>Pk b c (.bool false) fun b=>Lg 0 a fun c=>Bn .eql c (.int .i64 2) fun c=>.gop c true (.mv x1) fun d=>.gop c true (.bin 0 .geq d (.int .i64 3)) fun d=>Pk c d (.bool false) fun c=>Lg 8 a fun d=>Bn .eql d (.int .i64 0) fun d=>Gf d true 9 a fun e=>.gop d true (.bin 0 .eql e (.int .i64 0)) fun e=>Pk d e (.bool false) fun d=>Lg 8 a fun e=>Cl bT [e,.int .i64 1,.int .i64 999] fun e=>Gf e true 9 a fun f=>.gop e true (.bin 0 .geq f (.int .i64 1)) fun f=>Pk e f (.bool false) fun e=>Lg 0 a fun f=>Bn .eql f (.int .i64 0) fun f=>.ite f (Ld 12 a fun a=>.op (.build ji []) fun b=>Cl EB [a,b] fun a=>.fin [.val a]) (.ite b (.op (.fad 2 a) fun b=>Ld 6 b fun b=>Cl uI [b] fun b=>Gf b true 1 a fun c=>.gop b true (.bin 0 .eql c (.int .i64 3)) fun c=>.gop b true (.mv c) fun c=>.gop c true (.mv e) fun e=>.gop b true (.pick c e (.bool false)) fun c=>.gop b true (.mv c) fun c=>Gf c false 1 a fun e=>.gop c false (.bin 0 .neq e (.int .i64 3)) fun e=>.gop c false (.mv e) fun e=>.gop e true (.mv d) fun d=>.gop c false (.pick e d (.bool false)) fun d=>.gop b true (.pick c (.bool true) d) fun c=>Pk b c (.bool false) fun b=>Gf b true 10 a fun a=>.gop b true (.len 0 a) fun a=>.gop b true (.bin 0 .eql a (.int .i64 0)) fun a=>Pk b a (.bool false) fun a=>.fin [.val a]) (.ite c (.gop e true (.fad 2 a) fun b=>.gop e true (.ldn 6 b) fun b=>.gop e true (.build jT []) fun c=>.gop e true (.call qA [b,c]) fun b=>Pk e b (.bool false) fun b=>.gop b true (.ldn 12 a) fun a=>.gop b true (.call FD [a]) fun a=>Pk b a (.bool false) fun a=>.fin [.val a]) (.fin [.val (.bool false)]))))
theorem aeb (x0 x1:AV):CC Tryz.prog FE [x0,x1] (RL x0 x1):=cc Tryz.func107
end
def CV:Span:=⟨0,0,0,0,false,[]⟩
def Xl:Task:=⟨0,0,CV,0,0,[],0⟩
theorem VH {h:AH} {α:Type} [Cel α]:ah h .aA ([]:List α) []:=ah.aA
def MF (t:Task):Prop:=(∀ x∈t.hand,kZ x∧x.stamp=t.stamp)∧(t.pc=3↔0 < (t.hand.length:Int))
def vv (t : Task) (k : Int) : Prop := 0 ≤ t.h ∧ (0 ≤ t.pc ∧ t.pc ≤ 3) ∧ (0 ≤ k ∧ k ≤ 4) ∧
  (t = Xl ∨
   (t.op = 1 ∧ k < 3 ∧ sV t.s ∧ (t.hand.length : Int) = 0 ∧ ((t.pc = 3 ∧ (1 ≤ t.trace ∧ t.trace ≤ 999) ∧ 1 ≤ t.stamp) ∨ (t.pc ≠ 3 ∧ t.trace = 0 ∧ t.stamp = 0))) ∨
   (t.op = 2 ∧ 3 ≤ k ∧ MF t ∧ t.s = CV ∧ (1 ≤ t.trace ∧ t.trace ≤ 999) ∧ 1 ≤ t.stamp))
theorem ZK {h:AH} {xs ys:List Itm} {v0 v1:AV} {F G:List Nat} (r:ah h v0 xs F) (r':ah h v1 ys G):aP Tryz.prog D9 [v0,v1,.fn EC []] h (.bool (bp (xs=ys))):=by
 refine reader (ZO _ _ _) (by simp only[old]) ?_
 refine ahv (w:=7) rfl rfl r r' ?_
 rintro x _ y cs cs' F F' h' _ ⟨w,rfl,q⟩ ⟨w',rfl,q'⟩
 exact abn q q'
theorem abl {h:AH} {a b:Task} {v0 v1 u0 u1:AV} {F0 F1 G0 G1:List Nat} (r0:ah h v0 a.s.attrs F0) (r1:ah h v1 a.hand F1) (q0:ah h u0 b.s.attrs G0) (q1:ah h u1 b.hand G1):aP Tryz.prog EB [.agg (a.cs v0 v1),.agg (b.cs u0 u1)] h (.bool (bp (a=b))):=by
 refine reader (abK _ _) (by simp only[old]) ?_
 unfold Pw
 (repeat' first|refine vs ?_|(refine br ?_ ?_<;>first|exact bx|intro _)|((with_reducible refine aG qA ?_);(refine bC (Eu (a:=a.s) (b:=b.s) aB aB) ?_ ?_<;>intro hn))|((with_reducible refine aG D9 ?_);(refine bC (ZK aB aB) ?_ ?_<;>intro hn))|fail)
 all_goals first
  |(refine pf ?_;rintro rfl;contradiction)
  |(refine pt ?_;cases a;cases b;simp_all;done)
theorem adx {h:AH} {t:Task} {v0 v1:AV} {F1:List Nat} (ok:∀ x∈t.hand,Cel.ok x) (hs:t.hand.length+szs t.hand≤67108864) (r1:ah h v1 t.hand F1):aP Tryz.prog FD [.agg (t.cs v0 v1)] h (.bool (bp (MF t))):=by
 refine reader (ad8 _) (by simp only[old]) ?_
 unfold RG
 have hsm:=r1.small
 (repeat' first|refine vs ?_|fail)
 refine aX t.hand.length (fun i vs h1=>vs=[.int .i64 (i:Int)]∧i≤t.hand.length∧Ext (h.push ⟨t.cs v0 v1,0,0⟩) h1∧eZ t.hand (fun _ x=>kZ x∧x.stamp=t.stamp) i) ⟨rfl,Nat.zero_le _,aI,up0⟩ ?_
 rintro i vs h1 _ ⟨rfl,hi,e1,hu⟩
 simp only[g0]
 refine br (fun hlt=>?_) (fun hge=>?_)
 ·obtain⟨x,hx,-,-⟩:=aU (show i < t.hand.length by omega)
  have hm:=List.mem_of_getElem? hx
  have h5:=dh hm
  (repeat' first|refine vs ?_|(refine br ?_ ?_<;>first|exact bx|intro _)|((with_reducible refine aG yQ ?_);(refine bC (Q8 (ok x hm).2 (by omega) aB) ?_ ?_<;>intro hn))|((with_reducible refine bB ?_);((refine ix ?_);rintro _ _ _ _ _ ⟨_,rfl,_⟩ _))|fail)
  all_goals first
   |exact pf fun k=>nN hx (by rintro⟨a1,a2⟩;contradiction) k.1
   |exact⟨by omega,rfl,by omega,aI,upS hu hx ⟨hn,by omega⟩⟩
 ·have e:i=t.hand.length:=by omega
  rw[e] at hu
  have hu:=jV hu
  (repeat' first|refine vs ?_|(refine br ?_ ?_<;>intro _<;>try(exfalso;contradiction))|fail)
  all_goals first
   |exact pt ⟨hu,by omega⟩
   |exact pf fun k=>by obtain⟨a1,a2⟩:=k;omega
theorem ady {h:AH} {t:Task} {k:Int} {v0 v1:AV} {F0 F1:List Nat} (ok:Cel.ok t) (hs:Sz.sz t≤67108864) (r0:ah h v0 t.s.attrs F0) (r1:ah h v1 t.hand F1):aP Tryz.prog FE [.agg (t.cs v0 v1),.int .i64 k] h (.bool (bp (vv t k))):=by
 obtain⟨alm,alk,akI,ali,alj,aik,alA⟩:=ok
 have hs2:Sz.sz t=Sz.sz t.s+(t.hand.length+szs t.hand):=rfl
 refine reader (aeb _ _) (by simp only[old]) ?_
 unfold RL
 (repeat' first|refine vs ?_|(refine br ?_ ?_<;>first|exact bo|intro _)|((with_reducible refine aG bT ?_);(refine dS jG ?_ ?_<;>intro hb<;>(first|replace hb:=fE hb|replace hb:=fG hb)<;>try(exfalso;omega)))|((with_reducible refine aG uI ?_);(refine bC (Kv akI (by omega) aB) ?_ ?_<;>intro hn))|((with_reducible refine aG qA ?_);(refine bC (Eu (a:=t.s) (b:=CV) aB aB) ?_ ?_<;>intro hn))|((with_reducible refine aG EB ?_);(refine bC (abl (a:=t) (b:=Xl) (u0:=.aA) (u1:=.aA) aB aB VH VH) ?_ ?_<;>intro hn))|((with_reducible refine aG FD ?_);(refine bC (adx aik (by omega) aB) ?_ ?_<;>intro hn))|fail)
 all_goals first
  |(refine pt ⟨by omega,by omega,by omega,?_⟩;first|exact .inl (by assumption)|exact .inr (.inl ⟨by omega,by omega,by assumption,by omega,by omega⟩)|exact .inr (.inr ⟨by omega,by omega,by assumption,by assumption,by omega,by omega⟩))
  |(refine pf ?_;rintro⟨a1,a2,a3,a4|⟨b1,b2,b3,b4,b5⟩|⟨b1,b2,b3,b4,b5,b6⟩⟩<;>first|contradiction|omega|(subst a4;contradiction))
end Go.Proofs.YtcgjihfngdhjjaaGreat
