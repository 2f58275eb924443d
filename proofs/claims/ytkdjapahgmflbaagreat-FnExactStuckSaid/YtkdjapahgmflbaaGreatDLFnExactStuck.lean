import Derived.Test.YtkdjapahgmflbaaGreatRows
import Derived.WalkKit
import Derived.ProofKit
import Derived.OpenShut
import Derived.SizedLaws
import Derived.Test.YtkdjapahgmflbaaGreatDK4
import Derived.Test.YtkdjapahgmflbaaGreatDXFnExactStuck
set_option linter.unusedVariables false
namespace Go.Proofs.YtkdjapahgmflbaaGreat.fnExactStuck
open Go.ChangeShapes Go.WideShapes Go.ChangeAt Go.RowKit Go.Ab
section
set_option maxRecDepth 100000
theorem Xz (n:Nat):dY Pol Tryz.prog 24 n∧dY (List Pol) Tryz.prog 22 n:=by
 induction n using Nat.strongRecOn with
 |ind m ih=>
  refine⟨lq Tryz.underlying24 (by kernel_rfl) (fun n hn=>aZ (k:=1) rfl (by kernel_rfl) (cB Tryz.underlying3) (aZ (k:=1) rfl (by kernel_rfl) (cB Tryz.underlying3) (aZ (k:=1) rfl (by kernel_rfl) (Ga Tryz.underlying9) (aZ (k:=1) rfl (by kernel_rfl) (Ga Tryz.underlying9) (aZ (k:=1) rfl (by kernel_rfl) ((ih n hn).2) (lD)))))) ?_,nC Tryz.underlying22 (by kernel_rfl) (by decide+kernel) fun n hn=>(ih n hn).1⟩
  rintro h avs F ⟨x0,c0,_,F0,_,rfl,rfl,⟨rfl,rfl⟩,k0,x1,c1,_,F1,_,rfl,rfl,⟨rfl,rfl⟩,k1,x2,c2,_,F2,_,rfl,rfl,⟨rfl,rfl⟩,k2,x3,c3,_,F3,_,rfl,rfl,⟨rfl,rfl⟩,k3,x4,c4,_,F4,_,rfl,rfl,⟨v4,rfl,r4⟩,k4,rfl,rfl⟩
  exact ame k0 k1 k2 k3 r4 k4
theorem amM (n:Nat):dY Pol Tryz.prog 24 n:=(Xz n).1
theorem aow (n:Nat):dY (List Pol) Tryz.prog 22 n:=(Xz n).2
theorem amL (n:Nat):dY iL Tryz.prog 26 n:=lq Tryz.underlying26 (by kernel_rfl) (fun n _=>aZ (k:=1) rfl (by kernel_rfl) (cB Tryz.underlying3) (aZ (k:=1) rfl (by kernel_rfl) (cB Tryz.underlying3) (aZ (k:=1) rfl (by kernel_rfl) (cB Tryz.underlying3) (aZ (k:=1) rfl (by kernel_rfl) (cB Tryz.underlying3) (aZ (k:=1) rfl (by kernel_rfl) (cB Tryz.underlying3) (aZ (k:=1) rfl (by kernel_rfl) (cB Tryz.underlying3) (aZ (k:=1) rfl (by kernel_rfl) (cB Tryz.underlying3) (aZ (k:=5) rfl (by kernel_rfl) (amM _) (lD))))))))) (by
 rintro h avs F ⟨x0,c0,_,F0,_,rfl,rfl,⟨rfl,rfl⟩,k0,x1,c1,_,F1,_,rfl,rfl,⟨rfl,rfl⟩,k1,x2,c2,_,F2,_,rfl,rfl,⟨rfl,rfl⟩,k2,x3,c3,_,F3,_,rfl,rfl,⟨rfl,rfl⟩,k3,x4,c4,_,F4,_,rfl,rfl,⟨rfl,rfl⟩,k4,x5,c5,_,F5,_,rfl,rfl,⟨rfl,rfl⟩,k5,x6,c6,_,F6,_,rfl,rfl,⟨rfl,rfl⟩,k6,x7,c7,_,F7,_,rfl,rfl,r7,k7,rfl,rfl⟩
 exact alc k0 k1 k2 k3 k4 k5 k6 r7 k7)
theorem alY (n:Nat):dY Attr Tryz.prog 338 n:=lq Tryz.underlying338 (by kernel_rfl) (fun n _=>aZ (k:=1) rfl (by kernel_rfl) (Ga Tryz.underlying9) (aZ (k:=1) rfl (by kernel_rfl) (xP Tryz.underlying4) (aZ (k:=1) rfl (by kernel_rfl) (cB Tryz.underlying3) (aZ (k:=1) rfl (by kernel_rfl) (Ga Tryz.underlying9) (lD))))) (by
 rintro h avs F ⟨x0,c0,_,F0,_,rfl,rfl,⟨rfl,rfl⟩,k0,x1,c1,_,F1,_,rfl,rfl,⟨rfl,rfl⟩,k1,x2,c2,_,F2,_,rfl,rfl,⟨rfl,rfl⟩,k2,x3,c3,_,F3,_,rfl,rfl,⟨rfl,rfl⟩,k3,rfl,rfl⟩
 exact ald k0 k1 k2 k3)
theorem al6 (n:Nat):dY (List Attr) Tryz.prog 169 n:=nC Tryz.underlying169 (by kernel_rfl) (by decide+kernel) fun n _=>alY _
theorem Hw (n:Nat):dY Span Tryz.prog 171 n:=lq Tryz.underlying171 (by kernel_rfl) (fun n _=>aZ (k:=1) rfl (by kernel_rfl) (cB Tryz.underlying3) (aZ (k:=1) rfl (by kernel_rfl) (cB Tryz.underlying3) (aZ (k:=1) rfl (by kernel_rfl) (cB Tryz.underlying3) (aZ (k:=1) rfl (by kernel_rfl) (cB Tryz.underlying3) (aZ (k:=1) rfl (by kernel_rfl) (xP Tryz.underlying4) (aZ (k:=1) rfl (by kernel_rfl) (al6 _) (lD))))))) (by
 rintro h avs F ⟨x0,c0,_,F0,_,rfl,rfl,⟨rfl,rfl⟩,k0,x1,c1,_,F1,_,rfl,rfl,⟨rfl,rfl⟩,k1,x2,c2,_,F2,_,rfl,rfl,⟨rfl,rfl⟩,k2,x3,c3,_,F3,_,rfl,rfl,⟨rfl,rfl⟩,k3,x4,c4,_,F4,_,rfl,rfl,⟨rfl,rfl⟩,k4,x5,c5,_,F5,_,rfl,rfl,⟨v5,rfl,r5⟩,k5,rfl,rfl⟩
 exact ala k0 k1 k2 k3 k4 r5 k5)
theorem al0 (n:Nat):dY (List Span) Tryz.prog 301 n:=nC Tryz.underlying301 (by kernel_rfl) (by decide+kernel) fun n _=>Hw _
theorem alZ (n:Nat):dY Trail Tryz.prog 303 n:=lq Tryz.underlying303 (by kernel_rfl) (fun n _=>aZ (k:=1) rfl (by kernel_rfl) (cB Tryz.underlying3) (aZ (k:=1) rfl (by kernel_rfl) (cB Tryz.underlying3) (aZ (k:=1) rfl (by kernel_rfl) (cB Tryz.underlying3) (aZ (k:=1) rfl (by kernel_rfl) (al0 _) (lD))))) (by
 rintro h avs F ⟨x0,c0,_,F0,_,rfl,rfl,⟨rfl,rfl⟩,k0,x1,c1,_,F1,_,rfl,rfl,⟨rfl,rfl⟩,k1,x2,c2,_,F2,_,rfl,rfl,⟨rfl,rfl⟩,k2,x3,c3,_,F3,_,rfl,rfl,⟨v3,rfl,r3⟩,k3,rfl,rfl⟩
 exact aku k0 k1 k2 r3 k3)
theorem al8 (n:Nat):dY (List Trail) Tryz.prog 164 n:=nC Tryz.underlying164 (by kernel_rfl) (by decide+kernel) fun n _=>alZ _
theorem al7 (n:Nat):dY aQ Tryz.prog 166 n:=lq Tryz.underlying166 (by kernel_rfl) (fun n _=>aZ (k:=1) rfl (by kernel_rfl) (cB Tryz.underlying3) (aZ (k:=1) rfl (by kernel_rfl) (al8 _) (lD))) (by
 rintro h avs F ⟨x0,c0,_,F0,_,rfl,rfl,⟨rfl,rfl⟩,k0,x1,c1,_,F1,_,rfl,rfl,⟨v1,rfl,r1⟩,k1,rfl,rfl⟩
 exact ajW k0 r1 k1)
theorem amK (n:Nat):dY (List aQ) Tryz.prog 27 n:=nC Tryz.underlying27 (by kernel_rfl) (by decide+kernel) fun n _=>al7 _
theorem amJ (n:Nat):dY Bucket Tryz.prog 29 n:=lq Tryz.underlying29 (by kernel_rfl) (fun n _=>aZ (k:=1) rfl (by kernel_rfl) (cB Tryz.underlying3) (aZ (k:=1) rfl (by kernel_rfl) (cB Tryz.underlying3) (aZ (k:=1) rfl (by kernel_rfl) (cB Tryz.underlying3) (aZ (k:=1) rfl (by kernel_rfl) (cB Tryz.underlying3) (lD))))) (by
 rintro h avs F ⟨x0,c0,_,F0,_,rfl,rfl,⟨rfl,rfl⟩,k0,x1,c1,_,F1,_,rfl,rfl,⟨rfl,rfl⟩,k1,x2,c2,_,F2,_,rfl,rfl,⟨rfl,rfl⟩,k2,x3,c3,_,F3,_,rfl,rfl,⟨rfl,rfl⟩,k3,rfl,rfl⟩
 exact ajX k0 k1 k2 k3)
theorem al2 (n:Nat):dY bJ Tryz.prog 197 n:=lq Tryz.underlying197 (by kernel_rfl) (fun n _=>aZ (k:=1) rfl (by kernel_rfl) (cB Tryz.underlying3) (aZ (k:=1) rfl (by kernel_rfl) (cB Tryz.underlying3) (aZ (k:=1) rfl (by kernel_rfl) (xP Tryz.underlying4) (lD)))) (by
 rintro h avs F ⟨x0,c0,_,F0,_,rfl,rfl,⟨rfl,rfl⟩,k0,x1,c1,_,F1,_,rfl,rfl,⟨rfl,rfl⟩,k1,x2,c2,_,F2,_,rfl,rfl,⟨rfl,rfl⟩,k2,rfl,rfl⟩
 exact ajm k0 k1 k2)
theorem amI (n:Nat):dY (List bJ) Tryz.prog 30 n:=nC Tryz.underlying30 (by kernel_rfl) (by decide+kernel) fun n _=>al2 _
theorem al1 (n:Nat):dY Ab.Timer Tryz.prog 202 n:=lq Tryz.underlying202 (by kernel_rfl) (fun n _=>aZ (k:=1) rfl (by kernel_rfl) (cB Tryz.underlying3) (aZ (k:=1) rfl (by kernel_rfl) (cB Tryz.underlying3) (aZ (k:=1) rfl (by kernel_rfl) (cB Tryz.underlying3) (lD)))) (by
 rintro h avs F ⟨x0,c0,_,F0,_,rfl,rfl,⟨rfl,rfl⟩,k0,x1,c1,_,F1,_,rfl,rfl,⟨rfl,rfl⟩,k1,x2,c2,_,F2,_,rfl,rfl,⟨rfl,rfl⟩,k2,rfl,rfl⟩
 exact akv k0 k1 k2)
theorem M6 (n:Nat):dY (List Ab.Timer) Tryz.prog 32 n:=nC Tryz.underlying32 (by kernel_rfl) (by decide+kernel) fun n _=>al1 _
theorem YQ (n:Nat):dY (List (List Ab.Timer)) Tryz.prog 31 n:=nC Tryz.underlying31 (by kernel_rfl) (by decide+kernel) fun n _=>M6 _
theorem amH (n:Nat):dY bX Tryz.prog 34 n:=lq Tryz.underlying34 (by kernel_rfl) (fun n _=>aZ (k:=1) rfl (by kernel_rfl) (cB Tryz.underlying3) (aZ (k:=1) rfl (by kernel_rfl) (YQ _) (aZ (k:=1) rfl (by kernel_rfl) (YQ _) (aZ (k:=1) rfl (by kernel_rfl) (M6 _) (lD))))) (by
 rintro h avs F ⟨x0,c0,_,F0,_,rfl,rfl,⟨rfl,rfl⟩,k0,x1,c1,_,F1,_,rfl,rfl,⟨v1,rfl,r1⟩,k1,x2,c2,_,F2,_,rfl,rfl,⟨v2,rfl,r2⟩,k2,x3,c3,_,F3,_,rfl,rfl,⟨v3,rfl,r3⟩,k3,rfl,rfl⟩
 exact akt k0 r1 k1 r2 k2 r3 k3)
theorem al5 (n:Nat):dY Itm Tryz.prog 173 n:=lq Tryz.underlying173 (by kernel_rfl) (fun n _=>aZ (k:=1) rfl (by kernel_rfl) (cB Tryz.underlying3) (aZ (k:=6) rfl (by kernel_rfl) (Hw _) (lD))) (by
 rintro h avs F ⟨x0,c0,_,F0,_,rfl,rfl,⟨rfl,rfl⟩,k0,x1,c1,_,F1,_,rfl,rfl,r1,k1,rfl,rfl⟩
 exact amf k0 r1 k1)
theorem M5 (n:Nat):dY (List Itm) Tryz.prog 35 n:=nC Tryz.underlying35 (by kernel_rfl) (by decide+kernel) fun n _=>al5 _
theorem al4 (n:Nat):dY Task Tryz.prog 176 n:=lq Tryz.underlying176 (by kernel_rfl) (fun n _=>aZ (k:=1) rfl (by kernel_rfl) (cB Tryz.underlying3) (aZ (k:=1) rfl (by kernel_rfl) (cB Tryz.underlying3) (aZ (k:=6) rfl (by kernel_rfl) (Hw _) (aZ (k:=1) rfl (by kernel_rfl) (cB Tryz.underlying3) (aZ (k:=1) rfl (by kernel_rfl) (cB Tryz.underlying3) (aZ (k:=1) rfl (by kernel_rfl) (M5 _) (aZ (k:=1) rfl (by kernel_rfl) (cB Tryz.underlying3) (lD)))))))) (by
 rintro h avs F ⟨x0,c0,_,F0,_,rfl,rfl,⟨rfl,rfl⟩,k0,x1,c1,_,F1,_,rfl,rfl,⟨rfl,rfl⟩,k1,x2,c2,_,F2,_,rfl,rfl,r2,k2,x3,c3,_,F3,_,rfl,rfl,⟨rfl,rfl⟩,k3,x4,c4,_,F4,_,rfl,rfl,⟨rfl,rfl⟩,k4,x5,c5,_,F5,_,rfl,rfl,⟨v5,rfl,r5⟩,k5,x6,c6,_,F6,_,rfl,rfl,⟨rfl,rfl⟩,k6,rfl,rfl⟩
 exact ak9 k0 k1 r2 k2 k3 k4 r5 k5 k6)
theorem amG (n:Nat):dY (List Task) Tryz.prog 36 n:=nC Tryz.underlying36 (by kernel_rfl) (by decide+kernel) fun n _=>al4 _
theorem al3 (n:Nat):dY bI Tryz.prog 179 n:=lq Tryz.underlying179 (by kernel_rfl) (fun n _=>aZ (k:=1) rfl (by kernel_rfl) (cB Tryz.underlying3) (aZ (k:=1) rfl (by kernel_rfl) (cB Tryz.underlying3) (aZ (k:=6) rfl (by kernel_rfl) (Hw _) (aZ (k:=1) rfl (by kernel_rfl) (cB Tryz.underlying3) (aZ (k:=1) rfl (by kernel_rfl) (cB Tryz.underlying3) (aZ (k:=1) rfl (by kernel_rfl) (cB Tryz.underlying3) (aZ (k:=1) rfl (by kernel_rfl) (xP Tryz.underlying4) (aZ (k:=1) rfl (by kernel_rfl) (xP Tryz.underlying4) (aZ (k:=1) rfl (by kernel_rfl) (cB Tryz.underlying3) (aZ (k:=1) rfl (by kernel_rfl) (cB Tryz.underlying3) (aZ (k:=1) rfl (by kernel_rfl) (cB Tryz.underlying3) (aZ (k:=1) rfl (by kernel_rfl) (cB Tryz.underlying3) (aZ (k:=1) rfl (by kernel_rfl) (cB Tryz.underlying3) (aZ (k:=1) rfl (by kernel_rfl) (cB Tryz.underlying3) (aZ (k:=1) rfl (by kernel_rfl) (cB Tryz.underlying3) (lD)))))))))))))))) (by
 rintro h avs F ⟨x0,c0,_,F0,_,rfl,rfl,⟨rfl,rfl⟩,k0,x1,c1,_,F1,_,rfl,rfl,⟨rfl,rfl⟩,k1,x2,c2,_,F2,_,rfl,rfl,r2,k2,x3,c3,_,F3,_,rfl,rfl,⟨rfl,rfl⟩,k3,x4,c4,_,F4,_,rfl,rfl,⟨rfl,rfl⟩,k4,x5,c5,_,F5,_,rfl,rfl,⟨rfl,rfl⟩,k5,x6,c6,_,F6,_,rfl,rfl,⟨rfl,rfl⟩,k6,x7,c7,_,F7,_,rfl,rfl,⟨rfl,rfl⟩,k7,x8,c8,_,F8,_,rfl,rfl,⟨rfl,rfl⟩,k8,x9,c9,_,F9,_,rfl,rfl,⟨rfl,rfl⟩,k9,x10,c10,_,F10,_,rfl,rfl,⟨rfl,rfl⟩,k10,x11,c11,_,F11,_,rfl,rfl,⟨rfl,rfl⟩,k11,x12,c12,_,F12,_,rfl,rfl,⟨rfl,rfl⟩,k12,x13,c13,_,F13,_,rfl,rfl,⟨rfl,rfl⟩,k13,x14,c14,_,F14,_,rfl,rfl,⟨rfl,rfl⟩,k14,rfl,rfl⟩
 exact alb k0 k1 r2 k2 k3 k4 k5 k6 k7 k8 k9 k10 k11 k12 k13 k14)
theorem amF (n:Nat):dY (List bI) Tryz.prog 37 n:=nC Tryz.underlying37 (by kernel_rfl) (by decide+kernel) fun n _=>al3 _
theorem amE (n:Nat):dY Wld Tryz.prog 39 n:=lq Tryz.underlying39 (by kernel_rfl) (fun n _=>aZ (k:=12) rfl (by kernel_rfl) (amL _) (aZ (k:=1) rfl (by kernel_rfl) (cB Tryz.underlying3) (aZ (k:=1) rfl (by kernel_rfl) (xP Tryz.underlying4) (aZ (k:=1) rfl (by kernel_rfl) (amK _) (aZ (k:=1) rfl (by kernel_rfl) (cB Tryz.underlying3) (aZ (k:=4) rfl (by kernel_rfl) (amJ _) (aZ (k:=1) rfl (by kernel_rfl) (amI _) (aZ (k:=1) rfl (by kernel_rfl) (cB Tryz.underlying3) (aZ (k:=4) rfl (by kernel_rfl) (amH _) (aZ (k:=1) rfl (by kernel_rfl) (M6 _) (aZ (k:=1) rfl (by kernel_rfl) (M5 _) (aZ (k:=1) rfl (by kernel_rfl) (M5 _) (aZ (k:=1) rfl (by kernel_rfl) (amG _) (aZ (k:=1) rfl (by kernel_rfl) (amF _) (aZ (k:=1) rfl (by kernel_rfl) (cB Tryz.underlying3) (lD)))))))))))))))) (by
 rintro h avs F ⟨x0,c0,_,F0,_,rfl,rfl,r0,k0,x1,c1,_,F1,_,rfl,rfl,⟨rfl,rfl⟩,k1,x2,c2,_,F2,_,rfl,rfl,⟨rfl,rfl⟩,k2,x3,c3,_,F3,_,rfl,rfl,⟨v3,rfl,r3⟩,k3,x4,c4,_,F4,_,rfl,rfl,⟨rfl,rfl⟩,k4,x5,c5,_,F5,_,rfl,rfl,r5,k5,x6,c6,_,F6,_,rfl,rfl,⟨v6,rfl,r6⟩,k6,x7,c7,_,F7,_,rfl,rfl,⟨rfl,rfl⟩,k7,x8,c8,_,F8,_,rfl,rfl,r8,k8,x9,c9,_,F9,_,rfl,rfl,⟨v9,rfl,r9⟩,k9,x10,c10,_,F10,_,rfl,rfl,⟨v10,rfl,r10⟩,k10,x11,c11,_,F11,_,rfl,rfl,⟨v11,rfl,r11⟩,k11,x12,c12,_,F12,_,rfl,rfl,⟨v12,rfl,r12⟩,k12,x13,c13,_,F13,_,rfl,rfl,⟨v13,rfl,r13⟩,k13,x14,c14,_,F14,_,rfl,rfl,⟨rfl,rfl⟩,k14,rfl,rfl⟩
 exact amd r0 k0 k1 k2 r3 k3 k4 r5 k5 r6 k6 k7 r8 k8 r9 k9 r10 k10 r11 k11 r12 k12 r13 k13 k14)
end
theorem own:ownKnob Tryz.prog.godebug=none:=by kernel_rfl
theorem laid:laidOutB Tryz.prog=true:=by kernel_rfl
set_option maxRecDepth 100000 in
theorem lifted (os:Os) (started:os.Started) (H:Type) (enc:TypeId × Value→H):
  ReturnsInHanded {} Tryz.checked os 5 .any (Rows.fnExactStuckSpec.pre6 enc Tryz.prog Tryz.f5 Rows.fnExactStuckRow.domain false) (Rows.fnExactStuckSpec.post enc Tryz.prog Tryz.f5 false true false false):=by
 refine returnsInHanded_of_change_sized (C:=Tryz.checked) own started (by kernel_rfl) Tryz.func5
  (ChangeSpec.witness6 (enc:=enc) (C:=Tryz.checked) false ⟨#[],#[.agg #[.int .i64 0,.int .i64 0,.int .i64 0,.int .i64 0,.int .i64 0,.int .i64 0,.int .i64 0,.int .i64 0,.int .i64 0,.string ⟨#[]⟩,.string ⟨#[]⟩,.slice none 0 0,.int .i64 0,.bool false,.slice none 0 0,.int .i64 0,.int .i64 0,.int .i64 0,.int .i64 0,.int .i64 0,.slice none 0 0,.int .i64 0,.int .i64 0,.slice none 0 0,.slice none 0 0,.slice none 0 0,.slice none 0 0,.slice none 0 0,.slice none 0 0,.slice none 0 0,.slice none 0 0,.int .i64 0]],[]⟩ 20 (by kernel_rfl) (by kernel_rfl) (by kernel_rfl) (by kernel_rfl)) ?_
 intro W base args ds gs before hval0 hW hcnd hsz0 _
 have hsz:(DataW.weightsEach Tryz.prog (Tryz.f5.params.toList++Rows.fnExactStuckSpec.plain.varTypes Tryz.prog) (ds++gs)).all (·≤reachBytes)=true:=hsz0
 have hval:∀ (j:Nat) t v,Tryz.f5.params[j]? =some t→args[j]? =some v→Value.okWide Tryz.prog W .any base t v:=hval0
 have hW':=hW
 obtain⟨p,q,hA0,hV,rfl,hfz,hnd⟩:=hW
 have hA:DataW.TrodAll enc Tryz.prog W 0 (fun _=>true) true Tryz.f5.params.toList args.toList ds p:=hA0
 rw[Tryz.params5] at hA hval hsz
 obtain⟨rfl,rfl⟩:=trodVars_none hV
 have hlt:∀ x∈p,x.block < W.heap.size:=fun x hx=>hW'.lt x (by simpa using hx)
 have hwt:∀ n∈DataW.weightsEach Tryz.prog [39] ds,n≤reachBytes:=by
  intro n hn
  have hsz':=List.all_eq_true.1 hsz n (by simpa[ChangeSpec.plain,DataSpec.varTypes,Rows.fnExactStuckSpec] using hn)
  simpa using hsz'
 have key:=ajY (P:=Tryz.prog) (f:=5) (agV Tryz.underlying39 amE (ajj)) (fun h avs hr=>by
  obtain⟨cs0,xs0,F0,_,rfl,r0,k0,rfl⟩:=hr
  exact apo r0 k0) (fun j t v hj hv=>hval j t v (by simpa using hj) (by simpa using hv)) hA hwt
 refine key.mono fun e W' ⟨he,bel⟩=>?_
 subst he
 have hA2:=hA
 obtain⟨u0,us0,d0,ds0,p0,q0,hargs,rfl,rfl,hT0,hR0⟩:=trodAll_cons hA2
 obtain⟨rfl,rfl,rfl⟩:=trodAll_nil hR0
 exact⟨_,rfl,_,_,_,[],_,[],hW',trodAll_mk1 (shut_bool Tryz.underlying4 _),Si laid bel (by kernel_rfl) hA2 hlt,rfl,bel.frame _,fun h=>by cases h⟩
theorem an2 {a b:Bool} (ha:a=true) (hb:b=true):(a && b)=true:=by rw[ha,hb];rfl
set_option maxHeartbeats 8000000 in
theorem facts:joinedFacts Tryz.pinned.checked.prog 5 Tryz.f5 Rows.fnExactStuckSpec Rows.fnExactStuckRow=true:=by
 unfold joinedFacts
 (repeat' with_reducible refine an2 ?_ ?_)<;>as_aux_lemma=>kernel_rfl
theorem over:Rows.fnExactStuckRow.holds Tryz.pinned (OpenSpec.ofChange Rows.fnExactStuckSpec):=
 OpenClaim.holds_of_wide 5 Tryz.f5 rfl rfl rfl rfl rfl rfl rfl ⟨rfl,rfl,rfl,rfl,rfl⟩ rfl rfl rfl rfl rfl (by kernel_rfl) Tryz.func5 facts
  (of_decide_eq_true (by kernel_rfl)) (by unfold Func.isWrapper;first|(rw[if_pos (by decide+kernel)];kernel_rfl)|(rw[if_neg (by decide+kernel)];exact⟨rfl,rfl⟩))
  (fun os started H enc _=>lifted os started H enc)
theorem proved:Rows.FnExactStuckSaid:=over
#print axioms proved
end Go.Proofs.YtkdjapahgmflbaaGreat.fnExactStuck
namespace Go.Proofs.YtkdjapahgmflbaaGreat
theorem fnExactStuck_holds:Rows.FnExactStuckSaid:=fnExactStuck.proved
end Go.Proofs.YtkdjapahgmflbaaGreat
