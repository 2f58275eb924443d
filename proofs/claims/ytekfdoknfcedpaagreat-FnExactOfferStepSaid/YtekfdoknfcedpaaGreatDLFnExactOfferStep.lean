import Derived.Test.YtekfdoknfcedpaaGreatRows
import Derived.WalkKit
import Derived.ProofKit
import Derived.OpenShut
import Derived.SizedLaws
import Derived.Test.YtekfdoknfcedpaaGreatDK4
import Derived.Test.YtekfdoknfcedpaaGreatDXFnExactOfferStep
namespace Go.Proofs.YtekfdoknfcedpaaGreat.fnExactOfferStep
open Go.ChangeShapes Go.WideShapes Go.ChangeAt Go.RowKit Go.Ab
set_option linter.unusedVariables false
section
set_option maxRecDepth 100000
theorem UW (n:Nat):dN Pol Tryz.prog 24 n∧dN (List Pol) Tryz.prog 22 n:=by
 induction n using Nat.strongRecOn with
 |ind m ih=>
  refine⟨jZ Tryz.underlying24 (by kernel_rfl) (fun n hn=>aY (k:=1) rfl (by kernel_rfl) (bS Tryz.underlying3) (aY (k:=1) rfl (by kernel_rfl) (bS Tryz.underlying3) (aY (k:=1) rfl (by kernel_rfl) (Ez Tryz.underlying9) (aY (k:=1) rfl (by kernel_rfl) (Ez Tryz.underlying9) (aY (k:=1) rfl (by kernel_rfl) ((ih n hn).2) (j4)))))) ?_,l6 Tryz.underlying22 (by kernel_rfl) (by decide+kernel) fun n hn=>(ih n hn).1⟩
  rintro h avs F ⟨x0,c0,_,F0,_,rfl,rfl,⟨rfl,rfl⟩,k0,x1,c1,_,F1,_,rfl,rfl,⟨rfl,rfl⟩,k1,x2,c2,_,F2,_,rfl,rfl,⟨rfl,rfl⟩,k2,x3,c3,_,F3,_,rfl,rfl,⟨rfl,rfl⟩,k3,x4,c4,_,F4,_,rfl,rfl,⟨v4,rfl,r4⟩,k4,rfl,rfl⟩
  exact al0 k0 k1 k2 k3 r4 k4
theorem amx (n:Nat):dN Pol Tryz.prog 24 n:=(UW n).1
theorem aoh (n:Nat):dN (List Pol) Tryz.prog 22 n:=(UW n).2
theorem amw (n:Nat):dN gD Tryz.prog 26 n:=jZ Tryz.underlying26 (by kernel_rfl) (fun n _=>aY (k:=1) rfl (by kernel_rfl) (bS Tryz.underlying3) (aY (k:=1) rfl (by kernel_rfl) (bS Tryz.underlying3) (aY (k:=1) rfl (by kernel_rfl) (bS Tryz.underlying3) (aY (k:=1) rfl (by kernel_rfl) (bS Tryz.underlying3) (aY (k:=1) rfl (by kernel_rfl) (bS Tryz.underlying3) (aY (k:=1) rfl (by kernel_rfl) (bS Tryz.underlying3) (aY (k:=1) rfl (by kernel_rfl) (bS Tryz.underlying3) (aY (k:=5) rfl (by kernel_rfl) (amx _) (j4))))))))) (by
 rintro h avs F ⟨x0,c0,_,F0,_,rfl,rfl,⟨rfl,rfl⟩,k0,x1,c1,_,F1,_,rfl,rfl,⟨rfl,rfl⟩,k1,x2,c2,_,F2,_,rfl,rfl,⟨rfl,rfl⟩,k2,x3,c3,_,F3,_,rfl,rfl,⟨rfl,rfl⟩,k3,x4,c4,_,F4,_,rfl,rfl,⟨rfl,rfl⟩,k4,x5,c5,_,F5,_,rfl,rfl,⟨rfl,rfl⟩,k5,x6,c6,_,F6,_,rfl,rfl,⟨rfl,rfl⟩,k6,x7,c7,_,F7,_,rfl,rfl,r7,k7,rfl,rfl⟩
 exact ak3 k0 k1 k2 k3 k4 k5 k6 r7 k7)
theorem alN (n:Nat):dN Attr Tryz.prog 215 n:=jZ Tryz.underlying215 (by kernel_rfl) (fun n _=>aY (k:=1) rfl (by kernel_rfl) (Ez Tryz.underlying9) (aY (k:=1) rfl (by kernel_rfl) (wz Tryz.underlying4) (aY (k:=1) rfl (by kernel_rfl) (bS Tryz.underlying3) (aY (k:=1) rfl (by kernel_rfl) (Ez Tryz.underlying9) (j4))))) (by
 rintro h avs F ⟨x0,c0,_,F0,_,rfl,rfl,⟨rfl,rfl⟩,k0,x1,c1,_,F1,_,rfl,rfl,⟨rfl,rfl⟩,k1,x2,c2,_,F2,_,rfl,rfl,⟨rfl,rfl⟩,k2,x3,c3,_,F3,_,rfl,rfl,⟨rfl,rfl⟩,k3,rfl,rfl⟩
 exact ak4 k0 k1 k2 k3)
theorem amn (n:Nat):dN (List Attr) Tryz.prog 64 n:=l6 Tryz.underlying64 (by kernel_rfl) (by decide+kernel) fun n _=>alN _
theorem Gi (n:Nat):dN Span Tryz.prog 66 n:=jZ Tryz.underlying66 (by kernel_rfl) (fun n _=>aY (k:=1) rfl (by kernel_rfl) (bS Tryz.underlying3) (aY (k:=1) rfl (by kernel_rfl) (bS Tryz.underlying3) (aY (k:=1) rfl (by kernel_rfl) (bS Tryz.underlying3) (aY (k:=1) rfl (by kernel_rfl) (bS Tryz.underlying3) (aY (k:=1) rfl (by kernel_rfl) (wz Tryz.underlying4) (aY (k:=1) rfl (by kernel_rfl) (amn _) (j4))))))) (by
 rintro h avs F ⟨x0,c0,_,F0,_,rfl,rfl,⟨rfl,rfl⟩,k0,x1,c1,_,F1,_,rfl,rfl,⟨rfl,rfl⟩,k1,x2,c2,_,F2,_,rfl,rfl,⟨rfl,rfl⟩,k2,x3,c3,_,F3,_,rfl,rfl,⟨rfl,rfl⟩,k3,x4,c4,_,F4,_,rfl,rfl,⟨rfl,rfl⟩,k4,x5,c5,_,F5,_,rfl,rfl,⟨v5,rfl,r5⟩,k5,rfl,rfl⟩
 exact ak1 k0 k1 k2 k3 k4 r5 k5)
theorem alM (n:Nat):dN (List Span) Tryz.prog 262 n:=l6 Tryz.underlying262 (by kernel_rfl) (by decide+kernel) fun n _=>Gi _
theorem alL (n:Nat):dN Trail Tryz.prog 264 n:=jZ Tryz.underlying264 (by kernel_rfl) (fun n _=>aY (k:=1) rfl (by kernel_rfl) (bS Tryz.underlying3) (aY (k:=1) rfl (by kernel_rfl) (bS Tryz.underlying3) (aY (k:=1) rfl (by kernel_rfl) (bS Tryz.underlying3) (aY (k:=1) rfl (by kernel_rfl) (alM _) (j4))))) (by
 rintro h avs F ⟨x0,c0,_,F0,_,rfl,rfl,⟨rfl,rfl⟩,k0,x1,c1,_,F1,_,rfl,rfl,⟨rfl,rfl⟩,k1,x2,c2,_,F2,_,rfl,rfl,⟨rfl,rfl⟩,k2,x3,c3,_,F3,_,rfl,rfl,⟨v3,rfl,r3⟩,k3,rfl,rfl⟩
 exact ake k0 k1 k2 r3 k3)
theorem alU (n:Nat):dN (List Trail) Tryz.prog 137 n:=l6 Tryz.underlying137 (by kernel_rfl) (by decide+kernel) fun n _=>alL _
theorem alT (n:Nat):dN aM Tryz.prog 139 n:=jZ Tryz.underlying139 (by kernel_rfl) (fun n _=>aY (k:=1) rfl (by kernel_rfl) (bS Tryz.underlying3) (aY (k:=1) rfl (by kernel_rfl) (alU _) (j4))) (by
 rintro h avs F ⟨x0,c0,_,F0,_,rfl,rfl,⟨rfl,rfl⟩,k0,x1,c1,_,F1,_,rfl,rfl,⟨v1,rfl,r1⟩,k1,rfl,rfl⟩
 exact ajE k0 r1 k1)
theorem amv (n:Nat):dN (List aM) Tryz.prog 27 n:=l6 Tryz.underlying27 (by kernel_rfl) (by decide+kernel) fun n _=>alT _
theorem amu (n:Nat):dN Bucket Tryz.prog 29 n:=jZ Tryz.underlying29 (by kernel_rfl) (fun n _=>aY (k:=1) rfl (by kernel_rfl) (bS Tryz.underlying3) (aY (k:=1) rfl (by kernel_rfl) (bS Tryz.underlying3) (aY (k:=1) rfl (by kernel_rfl) (bS Tryz.underlying3) (aY (k:=1) rfl (by kernel_rfl) (bS Tryz.underlying3) (j4))))) (by
 rintro h avs F ⟨x0,c0,_,F0,_,rfl,rfl,⟨rfl,rfl⟩,k0,x1,c1,_,F1,_,rfl,rfl,⟨rfl,rfl⟩,k1,x2,c2,_,F2,_,rfl,rfl,⟨rfl,rfl⟩,k2,x3,c3,_,F3,_,rfl,rfl,⟨rfl,rfl⟩,k3,rfl,rfl⟩
 exact ajF k0 k1 k2 k3)
theorem alP (n:Nat):dN bg Tryz.prog 176 n:=jZ Tryz.underlying176 (by kernel_rfl) (fun n _=>aY (k:=1) rfl (by kernel_rfl) (bS Tryz.underlying3) (aY (k:=1) rfl (by kernel_rfl) (bS Tryz.underlying3) (aY (k:=1) rfl (by kernel_rfl) (wz Tryz.underlying4) (j4)))) (by
 rintro h avs F ⟨x0,c0,_,F0,_,rfl,rfl,⟨rfl,rfl⟩,k0,x1,c1,_,F1,_,rfl,rfl,⟨rfl,rfl⟩,k1,x2,c2,_,F2,_,rfl,rfl,⟨rfl,rfl⟩,k2,rfl,rfl⟩
 exact ai4 k0 k1 k2)
theorem amt (n:Nat):dN (List bg) Tryz.prog 30 n:=l6 Tryz.underlying30 (by kernel_rfl) (by decide+kernel) fun n _=>alP _
theorem alO (n:Nat):dN Ab.Timer Tryz.prog 181 n:=jZ Tryz.underlying181 (by kernel_rfl) (fun n _=>aY (k:=1) rfl (by kernel_rfl) (bS Tryz.underlying3) (aY (k:=1) rfl (by kernel_rfl) (bS Tryz.underlying3) (aY (k:=1) rfl (by kernel_rfl) (bS Tryz.underlying3) (j4)))) (by
 rintro h avs F ⟨x0,c0,_,F0,_,rfl,rfl,⟨rfl,rfl⟩,k0,x1,c1,_,F1,_,rfl,rfl,⟨rfl,rfl⟩,k1,x2,c2,_,F2,_,rfl,rfl,⟨rfl,rfl⟩,k2,rfl,rfl⟩
 exact akf k0 k1 k2)
theorem Ls (n:Nat):dN (List Ab.Timer) Tryz.prog 32 n:=l6 Tryz.underlying32 (by kernel_rfl) (by decide+kernel) fun n _=>alO _
theorem WB (n:Nat):dN (List (List Ab.Timer)) Tryz.prog 31 n:=l6 Tryz.underlying31 (by kernel_rfl) (by decide+kernel) fun n _=>Ls _
theorem ams (n:Nat):dN bD Tryz.prog 34 n:=jZ Tryz.underlying34 (by kernel_rfl) (fun n _=>aY (k:=1) rfl (by kernel_rfl) (bS Tryz.underlying3) (aY (k:=1) rfl (by kernel_rfl) (WB _) (aY (k:=1) rfl (by kernel_rfl) (WB _) (aY (k:=1) rfl (by kernel_rfl) (Ls _) (j4))))) (by
 rintro h avs F ⟨x0,c0,_,F0,_,rfl,rfl,⟨rfl,rfl⟩,k0,x1,c1,_,F1,_,rfl,rfl,⟨v1,rfl,r1⟩,k1,x2,c2,_,F2,_,rfl,rfl,⟨v2,rfl,r2⟩,k2,x3,c3,_,F3,_,rfl,rfl,⟨v3,rfl,r3⟩,k3,rfl,rfl⟩
 exact akd k0 r1 k1 r2 k2 r3 k3)
theorem alS (n:Nat):dN Itm Tryz.prog 143 n:=jZ Tryz.underlying143 (by kernel_rfl) (fun n _=>aY (k:=1) rfl (by kernel_rfl) (bS Tryz.underlying3) (aY (k:=6) rfl (by kernel_rfl) (Gi _) (j4))) (by
 rintro h avs F ⟨x0,c0,_,F0,_,rfl,rfl,⟨rfl,rfl⟩,k0,x1,c1,_,F1,_,rfl,rfl,r1,k1,rfl,rfl⟩
 exact al1 k0 r1 k1)
theorem Lr (n:Nat):dN (List Itm) Tryz.prog 35 n:=l6 Tryz.underlying35 (by kernel_rfl) (by decide+kernel) fun n _=>alS _
theorem alR (n:Nat):dN Task Tryz.prog 146 n:=jZ Tryz.underlying146 (by kernel_rfl) (fun n _=>aY (k:=1) rfl (by kernel_rfl) (bS Tryz.underlying3) (aY (k:=1) rfl (by kernel_rfl) (bS Tryz.underlying3) (aY (k:=6) rfl (by kernel_rfl) (Gi _) (aY (k:=1) rfl (by kernel_rfl) (bS Tryz.underlying3) (aY (k:=1) rfl (by kernel_rfl) (bS Tryz.underlying3) (aY (k:=1) rfl (by kernel_rfl) (Lr _) (aY (k:=1) rfl (by kernel_rfl) (bS Tryz.underlying3) (j4)))))))) (by
 rintro h avs F ⟨x0,c0,_,F0,_,rfl,rfl,⟨rfl,rfl⟩,k0,x1,c1,_,F1,_,rfl,rfl,⟨rfl,rfl⟩,k1,x2,c2,_,F2,_,rfl,rfl,r2,k2,x3,c3,_,F3,_,rfl,rfl,⟨rfl,rfl⟩,k3,x4,c4,_,F4,_,rfl,rfl,⟨rfl,rfl⟩,k4,x5,c5,_,F5,_,rfl,rfl,⟨v5,rfl,r5⟩,k5,x6,c6,_,F6,_,rfl,rfl,⟨rfl,rfl⟩,k6,rfl,rfl⟩
 exact ak0 k0 k1 r2 k2 k3 k4 r5 k5 k6)
theorem amr (n:Nat):dN (List Task) Tryz.prog 36 n:=l6 Tryz.underlying36 (by kernel_rfl) (by decide+kernel) fun n _=>alR _
theorem alQ (n:Nat):dN bV Tryz.prog 149 n:=jZ Tryz.underlying149 (by kernel_rfl) (fun n _=>aY (k:=1) rfl (by kernel_rfl) (bS Tryz.underlying3) (aY (k:=1) rfl (by kernel_rfl) (bS Tryz.underlying3) (aY (k:=6) rfl (by kernel_rfl) (Gi _) (aY (k:=1) rfl (by kernel_rfl) (bS Tryz.underlying3) (aY (k:=1) rfl (by kernel_rfl) (bS Tryz.underlying3) (aY (k:=1) rfl (by kernel_rfl) (bS Tryz.underlying3) (aY (k:=1) rfl (by kernel_rfl) (wz Tryz.underlying4) (aY (k:=1) rfl (by kernel_rfl) (wz Tryz.underlying4) (aY (k:=1) rfl (by kernel_rfl) (bS Tryz.underlying3) (aY (k:=1) rfl (by kernel_rfl) (bS Tryz.underlying3) (aY (k:=1) rfl (by kernel_rfl) (bS Tryz.underlying3) (aY (k:=1) rfl (by kernel_rfl) (bS Tryz.underlying3) (aY (k:=1) rfl (by kernel_rfl) (bS Tryz.underlying3) (aY (k:=1) rfl (by kernel_rfl) (bS Tryz.underlying3) (aY (k:=1) rfl (by kernel_rfl) (bS Tryz.underlying3) (j4)))))))))))))))) (by
 rintro h avs F ⟨x0,c0,_,F0,_,rfl,rfl,⟨rfl,rfl⟩,k0,x1,c1,_,F1,_,rfl,rfl,⟨rfl,rfl⟩,k1,x2,c2,_,F2,_,rfl,rfl,r2,k2,x3,c3,_,F3,_,rfl,rfl,⟨rfl,rfl⟩,k3,x4,c4,_,F4,_,rfl,rfl,⟨rfl,rfl⟩,k4,x5,c5,_,F5,_,rfl,rfl,⟨rfl,rfl⟩,k5,x6,c6,_,F6,_,rfl,rfl,⟨rfl,rfl⟩,k6,x7,c7,_,F7,_,rfl,rfl,⟨rfl,rfl⟩,k7,x8,c8,_,F8,_,rfl,rfl,⟨rfl,rfl⟩,k8,x9,c9,_,F9,_,rfl,rfl,⟨rfl,rfl⟩,k9,x10,c10,_,F10,_,rfl,rfl,⟨rfl,rfl⟩,k10,x11,c11,_,F11,_,rfl,rfl,⟨rfl,rfl⟩,k11,x12,c12,_,F12,_,rfl,rfl,⟨rfl,rfl⟩,k12,x13,c13,_,F13,_,rfl,rfl,⟨rfl,rfl⟩,k13,x14,c14,_,F14,_,rfl,rfl,⟨rfl,rfl⟩,k14,rfl,rfl⟩
 exact ak2 k0 k1 r2 k2 k3 k4 k5 k6 k7 k8 k9 k10 k11 k12 k13 k14)
theorem amq (n:Nat):dN (List bV) Tryz.prog 37 n:=l6 Tryz.underlying37 (by kernel_rfl) (by decide+kernel) fun n _=>alQ _
theorem amo (n:Nat):dN Wld Tryz.prog 39 n:=jZ Tryz.underlying39 (by kernel_rfl) (fun n _=>aY (k:=12) rfl (by kernel_rfl) (amw _) (aY (k:=1) rfl (by kernel_rfl) (bS Tryz.underlying3) (aY (k:=1) rfl (by kernel_rfl) (wz Tryz.underlying4) (aY (k:=1) rfl (by kernel_rfl) (amv _) (aY (k:=1) rfl (by kernel_rfl) (bS Tryz.underlying3) (aY (k:=4) rfl (by kernel_rfl) (amu _) (aY (k:=1) rfl (by kernel_rfl) (amt _) (aY (k:=1) rfl (by kernel_rfl) (bS Tryz.underlying3) (aY (k:=4) rfl (by kernel_rfl) (ams _) (aY (k:=1) rfl (by kernel_rfl) (Ls _) (aY (k:=1) rfl (by kernel_rfl) (Lr _) (aY (k:=1) rfl (by kernel_rfl) (Lr _) (aY (k:=1) rfl (by kernel_rfl) (amr _) (aY (k:=1) rfl (by kernel_rfl) (amq _) (aY (k:=1) rfl (by kernel_rfl) (bS Tryz.underlying3) (j4)))))))))))))))) (by
 rintro h avs F ⟨x0,c0,_,F0,_,rfl,rfl,r0,k0,x1,c1,_,F1,_,rfl,rfl,⟨rfl,rfl⟩,k1,x2,c2,_,F2,_,rfl,rfl,⟨rfl,rfl⟩,k2,x3,c3,_,F3,_,rfl,rfl,⟨v3,rfl,r3⟩,k3,x4,c4,_,F4,_,rfl,rfl,⟨rfl,rfl⟩,k4,x5,c5,_,F5,_,rfl,rfl,r5,k5,x6,c6,_,F6,_,rfl,rfl,⟨v6,rfl,r6⟩,k6,x7,c7,_,F7,_,rfl,rfl,⟨rfl,rfl⟩,k7,x8,c8,_,F8,_,rfl,rfl,r8,k8,x9,c9,_,F9,_,rfl,rfl,⟨v9,rfl,r9⟩,k9,x10,c10,_,F10,_,rfl,rfl,⟨v10,rfl,r10⟩,k10,x11,c11,_,F11,_,rfl,rfl,⟨v11,rfl,r11⟩,k11,x12,c12,_,F12,_,rfl,rfl,⟨v12,rfl,r12⟩,k12,x13,c13,_,F13,_,rfl,rfl,⟨v13,rfl,r13⟩,k13,x14,c14,_,F14,_,rfl,rfl,⟨rfl,rfl⟩,k14,rfl,rfl⟩
 exact alZ r0 k0 k1 k2 r3 k3 k4 r5 k5 r6 k6 k7 r8 k8 r9 k9 r10 k10 r11 k11 r12 k12 r13 k13 k14)
end
theorem own:ownKnob Tryz.prog.godebug=none:=by kernel_rfl
theorem laid:laidOutB Tryz.prog=true:=by kernel_rfl
set_option maxRecDepth 100000 in
theorem lifted (os:Os) (started:os.Started) (H:Type) (enc:TypeId × Value→H):
  ReturnsInHanded {} Tryz.checked os 4 .any (Rows.fnExactOfferStepSpec.pre6 enc Tryz.prog Tryz.f4 Rows.fnExactOfferStepRow.domain false) (Rows.fnExactOfferStepSpec.post enc Tryz.prog Tryz.f4 false true false false):=by
 refine returnsInHanded_of_change_sized (C:=Tryz.checked) own started (by kernel_rfl) Tryz.func4
  (ChangeSpec.witness6 (enc:=enc) (C:=Tryz.checked) false ⟨#[],#[.agg #[.int .i64 0,.int .i64 0,.int .i64 0,.int .i64 0,.int .i64 0,.int .i64 0,.int .i64 0,.int .i64 0,.int .i64 0,.string ⟨#[]⟩,.string ⟨#[]⟩,.slice none 0 0,.int .i64 0,.bool false,.slice none 0 0,.int .i64 0,.int .i64 0,.int .i64 0,.int .i64 0,.int .i64 0,.slice none 0 0,.int .i64 0,.int .i64 0,.slice none 0 0,.slice none 0 0,.slice none 0 0,.slice none 0 0,.slice none 0 0,.slice none 0 0,.slice none 0 0,.slice none 0 0,.int .i64 0],.int .i64 0],[]⟩ 20 (by kernel_rfl) (by kernel_rfl) (by kernel_rfl) (by kernel_rfl)) ?_
 intro W base args ds gs before hval0 hW hcnd hsz0 _
 have hsz:(DataW.weightsEach Tryz.prog (Tryz.f4.params.toList++Rows.fnExactOfferStepSpec.plain.varTypes Tryz.prog) (ds++gs)).all (·≤reachBytes)=true:=hsz0
 have hval:∀ (j:Nat) t v,Tryz.f4.params[j]? =some t→args[j]? =some v→Value.okWide Tryz.prog W .any base t v:=hval0
 have hW':=hW
 obtain⟨p,q,hA0,hV,rfl,hfz,hnd⟩:=hW
 have hA:DataW.TrodAll enc Tryz.prog W 0 (fun _=>true) true Tryz.f4.params.toList args.toList ds p:=hA0
 rw[Tryz.params4] at hA hval hsz
 obtain⟨rfl,rfl⟩:=trodVars_none hV
 have hlt:∀ x∈p,x.block < W.heap.size:=fun x hx=>hW'.lt x (by simpa using hx)
 have hwt:∀ n∈DataW.weightsEach Tryz.prog [39,3] ds,n≤reachBytes:=by
  intro n hn
  have hsz':=List.all_eq_true.1 hsz n (by simpa[ChangeSpec.plain,DataSpec.varTypes,Rows.fnExactOfferStepSpec] using hn)
  simpa using hsz'
 have key:=ajH (P:=Tryz.prog) (f:=4) (ag9 Tryz.underlying39 amo (ai1 Tryz.underlying3 (ai0))) (fun h avs hr=>by
  obtain⟨cs0,xs0,F0,_,rfl,r0,k0,n1,_,rfl,k1,rfl⟩:=hr
  exact Z0 r0 k0 k1) (fun j t v hj hv=>hval j t v (by simpa using hj) (by simpa using hv)) hA hwt
 refine key.mono fun e W' ⟨he,bel⟩=>?_
 subst he
 have hA2:=hA
 obtain⟨u0,us0,d0,ds0,p0,q0,hargs,rfl,rfl,hT0,hR0⟩:=trodAll_cons hA2
 obtain⟨u1,us1,d1,ds1,p1,q1,rfl,rfl,rfl,hT1,hR1⟩:=trodAll_cons hR0
 obtain⟨rfl,rfl,rfl⟩:=trodAll_nil hR1
 exact⟨_,rfl,_,_,_,[],_,[],hW',trodAll_mk1 (shut_bool Tryz.underlying4 _),QC laid bel (by kernel_rfl) hA2 hlt,rfl,bel.frame _,fun h=>by cases h⟩
theorem anQ {a b:Bool} (ha:a=true) (hb:b=true):(a && b)=true:=by rw[ha,hb];rfl
set_option maxHeartbeats 8000000 in
theorem facts:joinedFacts Tryz.pinned.checked.prog 4 Tryz.f4 Rows.fnExactOfferStepSpec Rows.fnExactOfferStepRow=true:=by
 unfold joinedFacts
 (repeat' with_reducible refine anQ ?_ ?_)<;>as_aux_lemma=>kernel_rfl
theorem over:Rows.fnExactOfferStepRow.holds Tryz.pinned (OpenSpec.ofChange Rows.fnExactOfferStepSpec):=
 OpenClaim.holds_of_wide 4 Tryz.f4 rfl rfl rfl rfl rfl rfl rfl ⟨rfl,rfl,rfl,rfl,rfl⟩ rfl rfl rfl rfl rfl (by kernel_rfl) Tryz.func4 facts
  (of_decide_eq_true (by kernel_rfl)) (by unfold Func.isWrapper;first|(rw[if_pos (by decide+kernel)];kernel_rfl)|(rw[if_neg (by decide+kernel)];exact⟨rfl,rfl⟩))
  (fun os started H enc _=>lifted os started H enc)
theorem proved:Rows.FnExactOfferStepSaid:=over
#print axioms proved
end Go.Proofs.YtekfdoknfcedpaaGreat.fnExactOfferStep
namespace Go.Proofs.YtekfdoknfcedpaaGreat
theorem fnExactOfferStep_holds:Rows.FnExactOfferStepSaid:=fnExactOfferStep.proved
end Go.Proofs.YtekfdoknfcedpaaGreat
