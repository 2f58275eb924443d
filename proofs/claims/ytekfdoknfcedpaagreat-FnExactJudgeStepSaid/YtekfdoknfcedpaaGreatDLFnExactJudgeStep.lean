import Derived.Test.YtekfdoknfcedpaaGreatRows
import Derived.WalkKit
import Derived.ProofKit
import Derived.OpenShut
import Derived.SizedLaws
import Derived.Test.YtekfdoknfcedpaaGreatDK4
import Derived.Test.YtekfdoknfcedpaaGreatDXFnExactJudgeStep
namespace Go.Proofs.YtekfdoknfcedpaaGreat.fnExactJudgeStep
open Go.ChangeShapes Go.WideShapes Go.ChangeAt Go.RowKit Go.Ab
set_option linter.unusedVariables false
section
set_option maxRecDepth 100000
theorem Ut (n:Nat):dG Pol Tryz.prog 24 n∧dG (List Pol) Tryz.prog 22 n:=by
 induction n using Nat.strongRecOn with
 |ind m ih=>
  refine⟨jf Tryz.underlying24 (by kernel_rfl) (fun n hn=>bg (k:=1) rfl (by kernel_rfl) (bT Tryz.underlying3) (bg (k:=1) rfl (by kernel_rfl) (bT Tryz.underlying3) (bg (k:=1) rfl (by kernel_rfl) (Dj Tryz.underlying9) (bg (k:=1) rfl (by kernel_rfl) (Dj Tryz.underlying9) (bg (k:=1) rfl (by kernel_rfl) ((ih n hn).2) (jg)))))) ?_,kG Tryz.underlying22 (by kernel_rfl) (by decide+kernel) fun n hn=>(ih n hn).1⟩
  rintro h avs F ⟨x0,c0,_,F0,_,rfl,rfl,⟨rfl,rfl⟩,k0,x1,c1,_,F1,_,rfl,rfl,⟨rfl,rfl⟩,k1,x2,c2,_,F2,_,rfl,rfl,⟨rfl,rfl⟩,k2,x3,c3,_,F3,_,rfl,rfl,⟨rfl,rfl⟩,k3,x4,c4,_,F4,_,rfl,rfl,⟨v4,rfl,r4⟩,k4,rfl,rfl⟩
  exact al5 k0 k1 k2 k3 r4 k4
theorem amG (n:Nat):dG Pol Tryz.prog 24 n:=(Ut n).1
theorem aon (n:Nat):dG (List Pol) Tryz.prog 22 n:=(Ut n).2
theorem amF (n:Nat):dG fF Tryz.prog 26 n:=jf Tryz.underlying26 (by kernel_rfl) (fun n _=>bg (k:=1) rfl (by kernel_rfl) (bT Tryz.underlying3) (bg (k:=1) rfl (by kernel_rfl) (bT Tryz.underlying3) (bg (k:=1) rfl (by kernel_rfl) (bT Tryz.underlying3) (bg (k:=1) rfl (by kernel_rfl) (bT Tryz.underlying3) (bg (k:=1) rfl (by kernel_rfl) (bT Tryz.underlying3) (bg (k:=1) rfl (by kernel_rfl) (bT Tryz.underlying3) (bg (k:=1) rfl (by kernel_rfl) (bT Tryz.underlying3) (bg (k:=5) rfl (by kernel_rfl) (amG _) (jg))))))))) (by
 rintro h avs F ⟨x0,c0,_,F0,_,rfl,rfl,⟨rfl,rfl⟩,k0,x1,c1,_,F1,_,rfl,rfl,⟨rfl,rfl⟩,k1,x2,c2,_,F2,_,rfl,rfl,⟨rfl,rfl⟩,k2,x3,c3,_,F3,_,rfl,rfl,⟨rfl,rfl⟩,k3,x4,c4,_,F4,_,rfl,rfl,⟨rfl,rfl⟩,k4,x5,c5,_,F5,_,rfl,rfl,⟨rfl,rfl⟩,k5,x6,c6,_,F6,_,rfl,rfl,⟨rfl,rfl⟩,k6,x7,c7,_,F7,_,rfl,rfl,r7,k7,rfl,rfl⟩
 exact ale k0 k1 k2 k3 k4 k5 k6 r7 k7)
theorem alS (n:Nat):dG Attr Tryz.prog 215 n:=jf Tryz.underlying215 (by kernel_rfl) (fun n _=>bg (k:=1) rfl (by kernel_rfl) (Dj Tryz.underlying9) (bg (k:=1) rfl (by kernel_rfl) (uz Tryz.underlying4) (bg (k:=1) rfl (by kernel_rfl) (bT Tryz.underlying3) (bg (k:=1) rfl (by kernel_rfl) (Dj Tryz.underlying9) (jg))))) (by
 rintro h avs F ⟨x0,c0,_,F0,_,rfl,rfl,⟨rfl,rfl⟩,k0,x1,c1,_,F1,_,rfl,rfl,⟨rfl,rfl⟩,k1,x2,c2,_,F2,_,rfl,rfl,⟨rfl,rfl⟩,k2,x3,c3,_,F3,_,rfl,rfl,⟨rfl,rfl⟩,k3,rfl,rfl⟩
 exact alf k0 k1 k2 k3)
theorem amw (n:Nat):dG (List Attr) Tryz.prog 64 n:=kG Tryz.underlying64 (by kernel_rfl) (by decide+kernel) fun n _=>alS _
theorem FD (n:Nat):dG Span Tryz.prog 66 n:=jf Tryz.underlying66 (by kernel_rfl) (fun n _=>bg (k:=1) rfl (by kernel_rfl) (bT Tryz.underlying3) (bg (k:=1) rfl (by kernel_rfl) (bT Tryz.underlying3) (bg (k:=1) rfl (by kernel_rfl) (bT Tryz.underlying3) (bg (k:=1) rfl (by kernel_rfl) (bT Tryz.underlying3) (bg (k:=1) rfl (by kernel_rfl) (uz Tryz.underlying4) (bg (k:=1) rfl (by kernel_rfl) (amw _) (jg))))))) (by
 rintro h avs F ⟨x0,c0,_,F0,_,rfl,rfl,⟨rfl,rfl⟩,k0,x1,c1,_,F1,_,rfl,rfl,⟨rfl,rfl⟩,k1,x2,c2,_,F2,_,rfl,rfl,⟨rfl,rfl⟩,k2,x3,c3,_,F3,_,rfl,rfl,⟨rfl,rfl⟩,k3,x4,c4,_,F4,_,rfl,rfl,⟨rfl,rfl⟩,k4,x5,c5,_,F5,_,rfl,rfl,⟨v5,rfl,r5⟩,k5,rfl,rfl⟩
 exact alc k0 k1 k2 k3 k4 r5 k5)
theorem alR (n:Nat):dG (List Span) Tryz.prog 262 n:=kG Tryz.underlying262 (by kernel_rfl) (by decide+kernel) fun n _=>FD _
theorem alQ (n:Nat):dG Trail Tryz.prog 264 n:=jf Tryz.underlying264 (by kernel_rfl) (fun n _=>bg (k:=1) rfl (by kernel_rfl) (bT Tryz.underlying3) (bg (k:=1) rfl (by kernel_rfl) (bT Tryz.underlying3) (bg (k:=1) rfl (by kernel_rfl) (bT Tryz.underlying3) (bg (k:=1) rfl (by kernel_rfl) (alR _) (jg))))) (by
 rintro h avs F ⟨x0,c0,_,F0,_,rfl,rfl,⟨rfl,rfl⟩,k0,x1,c1,_,F1,_,rfl,rfl,⟨rfl,rfl⟩,k1,x2,c2,_,F2,_,rfl,rfl,⟨rfl,rfl⟩,k2,x3,c3,_,F3,_,rfl,rfl,⟨v3,rfl,r3⟩,k3,rfl,rfl⟩
 exact aks k0 k1 k2 r3 k3)
theorem alZ (n:Nat):dG (List Trail) Tryz.prog 137 n:=kG Tryz.underlying137 (by kernel_rfl) (by decide+kernel) fun n _=>alQ _
theorem alY (n:Nat):dG aU Tryz.prog 139 n:=jf Tryz.underlying139 (by kernel_rfl) (fun n _=>bg (k:=1) rfl (by kernel_rfl) (bT Tryz.underlying3) (bg (k:=1) rfl (by kernel_rfl) (alZ _) (jg))) (by
 rintro h avs F ⟨x0,c0,_,F0,_,rfl,rfl,⟨rfl,rfl⟩,k0,x1,c1,_,F1,_,rfl,rfl,⟨v1,rfl,r1⟩,k1,rfl,rfl⟩
 exact ajT k0 r1 k1)
theorem amE (n:Nat):dG (List aU) Tryz.prog 27 n:=kG Tryz.underlying27 (by kernel_rfl) (by decide+kernel) fun n _=>alY _
theorem amD (n:Nat):dG Bucket Tryz.prog 29 n:=jf Tryz.underlying29 (by kernel_rfl) (fun n _=>bg (k:=1) rfl (by kernel_rfl) (bT Tryz.underlying3) (bg (k:=1) rfl (by kernel_rfl) (bT Tryz.underlying3) (bg (k:=1) rfl (by kernel_rfl) (bT Tryz.underlying3) (bg (k:=1) rfl (by kernel_rfl) (bT Tryz.underlying3) (jg))))) (by
 rintro h avs F ⟨x0,c0,_,F0,_,rfl,rfl,⟨rfl,rfl⟩,k0,x1,c1,_,F1,_,rfl,rfl,⟨rfl,rfl⟩,k1,x2,c2,_,F2,_,rfl,rfl,⟨rfl,rfl⟩,k2,x3,c3,_,F3,_,rfl,rfl,⟨rfl,rfl⟩,k3,rfl,rfl⟩
 exact ajU k0 k1 k2 k3)
theorem alU (n:Nat):dG bM Tryz.prog 176 n:=jf Tryz.underlying176 (by kernel_rfl) (fun n _=>bg (k:=1) rfl (by kernel_rfl) (bT Tryz.underlying3) (bg (k:=1) rfl (by kernel_rfl) (bT Tryz.underlying3) (bg (k:=1) rfl (by kernel_rfl) (uz Tryz.underlying4) (jg)))) (by
 rintro h avs F ⟨x0,c0,_,F0,_,rfl,rfl,⟨rfl,rfl⟩,k0,x1,c1,_,F1,_,rfl,rfl,⟨rfl,rfl⟩,k1,x2,c2,_,F2,_,rfl,rfl,⟨rfl,rfl⟩,k2,rfl,rfl⟩
 exact ajj k0 k1 k2)
theorem amC (n:Nat):dG (List bM) Tryz.prog 30 n:=kG Tryz.underlying30 (by kernel_rfl) (by decide+kernel) fun n _=>alU _
theorem alT (n:Nat):dG Ab.Timer Tryz.prog 181 n:=jf Tryz.underlying181 (by kernel_rfl) (fun n _=>bg (k:=1) rfl (by kernel_rfl) (bT Tryz.underlying3) (bg (k:=1) rfl (by kernel_rfl) (bT Tryz.underlying3) (bg (k:=1) rfl (by kernel_rfl) (bT Tryz.underlying3) (jg)))) (by
 rintro h avs F ⟨x0,c0,_,F0,_,rfl,rfl,⟨rfl,rfl⟩,k0,x1,c1,_,F1,_,rfl,rfl,⟨rfl,rfl⟩,k1,x2,c2,_,F2,_,rfl,rfl,⟨rfl,rfl⟩,k2,rfl,rfl⟩
 exact akt k0 k1 k2)
theorem KP (n:Nat):dG (List Ab.Timer) Tryz.prog 32 n:=kG Tryz.underlying32 (by kernel_rfl) (by decide+kernel) fun n _=>alT _
theorem VX (n:Nat):dG (List (List Ab.Timer)) Tryz.prog 31 n:=kG Tryz.underlying31 (by kernel_rfl) (by decide+kernel) fun n _=>KP _
theorem amB (n:Nat):dG dN Tryz.prog 34 n:=jf Tryz.underlying34 (by kernel_rfl) (fun n _=>bg (k:=1) rfl (by kernel_rfl) (bT Tryz.underlying3) (bg (k:=1) rfl (by kernel_rfl) (VX _) (bg (k:=1) rfl (by kernel_rfl) (VX _) (bg (k:=1) rfl (by kernel_rfl) (KP _) (jg))))) (by
 rintro h avs F ⟨x0,c0,_,F0,_,rfl,rfl,⟨rfl,rfl⟩,k0,x1,c1,_,F1,_,rfl,rfl,⟨v1,rfl,r1⟩,k1,x2,c2,_,F2,_,rfl,rfl,⟨v2,rfl,r2⟩,k2,x3,c3,_,F3,_,rfl,rfl,⟨v3,rfl,r3⟩,k3,rfl,rfl⟩
 exact akr k0 r1 k1 r2 k2 r3 k3)
theorem alX (n:Nat):dG Itm Tryz.prog 143 n:=jf Tryz.underlying143 (by kernel_rfl) (fun n _=>bg (k:=1) rfl (by kernel_rfl) (bT Tryz.underlying3) (bg (k:=6) rfl (by kernel_rfl) (FD _) (jg))) (by
 rintro h avs F ⟨x0,c0,_,F0,_,rfl,rfl,⟨rfl,rfl⟩,k0,x1,c1,_,F1,_,rfl,rfl,r1,k1,rfl,rfl⟩
 exact al6 k0 r1 k1)
theorem KO (n:Nat):dG (List Itm) Tryz.prog 35 n:=kG Tryz.underlying35 (by kernel_rfl) (by decide+kernel) fun n _=>alX _
theorem alW (n:Nat):dG Task Tryz.prog 146 n:=jf Tryz.underlying146 (by kernel_rfl) (fun n _=>bg (k:=1) rfl (by kernel_rfl) (bT Tryz.underlying3) (bg (k:=1) rfl (by kernel_rfl) (bT Tryz.underlying3) (bg (k:=6) rfl (by kernel_rfl) (FD _) (bg (k:=1) rfl (by kernel_rfl) (bT Tryz.underlying3) (bg (k:=1) rfl (by kernel_rfl) (bT Tryz.underlying3) (bg (k:=1) rfl (by kernel_rfl) (KO _) (bg (k:=1) rfl (by kernel_rfl) (bT Tryz.underlying3) (jg)))))))) (by
 rintro h avs F ⟨x0,c0,_,F0,_,rfl,rfl,⟨rfl,rfl⟩,k0,x1,c1,_,F1,_,rfl,rfl,⟨rfl,rfl⟩,k1,x2,c2,_,F2,_,rfl,rfl,r2,k2,x3,c3,_,F3,_,rfl,rfl,⟨rfl,rfl⟩,k3,x4,c4,_,F4,_,rfl,rfl,⟨rfl,rfl⟩,k4,x5,c5,_,F5,_,rfl,rfl,⟨v5,rfl,r5⟩,k5,x6,c6,_,F6,_,rfl,rfl,⟨rfl,rfl⟩,k6,rfl,rfl⟩
 exact alb k0 k1 r2 k2 k3 k4 r5 k5 k6)
theorem amA (n:Nat):dG (List Task) Tryz.prog 36 n:=kG Tryz.underlying36 (by kernel_rfl) (by decide+kernel) fun n _=>alW _
theorem alV (n:Nat):dG bN Tryz.prog 149 n:=jf Tryz.underlying149 (by kernel_rfl) (fun n _=>bg (k:=1) rfl (by kernel_rfl) (bT Tryz.underlying3) (bg (k:=1) rfl (by kernel_rfl) (bT Tryz.underlying3) (bg (k:=6) rfl (by kernel_rfl) (FD _) (bg (k:=1) rfl (by kernel_rfl) (bT Tryz.underlying3) (bg (k:=1) rfl (by kernel_rfl) (bT Tryz.underlying3) (bg (k:=1) rfl (by kernel_rfl) (bT Tryz.underlying3) (bg (k:=1) rfl (by kernel_rfl) (uz Tryz.underlying4) (bg (k:=1) rfl (by kernel_rfl) (uz Tryz.underlying4) (bg (k:=1) rfl (by kernel_rfl) (bT Tryz.underlying3) (bg (k:=1) rfl (by kernel_rfl) (bT Tryz.underlying3) (bg (k:=1) rfl (by kernel_rfl) (bT Tryz.underlying3) (bg (k:=1) rfl (by kernel_rfl) (bT Tryz.underlying3) (bg (k:=1) rfl (by kernel_rfl) (bT Tryz.underlying3) (bg (k:=1) rfl (by kernel_rfl) (bT Tryz.underlying3) (bg (k:=1) rfl (by kernel_rfl) (bT Tryz.underlying3) (jg)))))))))))))))) (by
 rintro h avs F ⟨x0,c0,_,F0,_,rfl,rfl,⟨rfl,rfl⟩,k0,x1,c1,_,F1,_,rfl,rfl,⟨rfl,rfl⟩,k1,x2,c2,_,F2,_,rfl,rfl,r2,k2,x3,c3,_,F3,_,rfl,rfl,⟨rfl,rfl⟩,k3,x4,c4,_,F4,_,rfl,rfl,⟨rfl,rfl⟩,k4,x5,c5,_,F5,_,rfl,rfl,⟨rfl,rfl⟩,k5,x6,c6,_,F6,_,rfl,rfl,⟨rfl,rfl⟩,k6,x7,c7,_,F7,_,rfl,rfl,⟨rfl,rfl⟩,k7,x8,c8,_,F8,_,rfl,rfl,⟨rfl,rfl⟩,k8,x9,c9,_,F9,_,rfl,rfl,⟨rfl,rfl⟩,k9,x10,c10,_,F10,_,rfl,rfl,⟨rfl,rfl⟩,k10,x11,c11,_,F11,_,rfl,rfl,⟨rfl,rfl⟩,k11,x12,c12,_,F12,_,rfl,rfl,⟨rfl,rfl⟩,k12,x13,c13,_,F13,_,rfl,rfl,⟨rfl,rfl⟩,k13,x14,c14,_,F14,_,rfl,rfl,⟨rfl,rfl⟩,k14,rfl,rfl⟩
 exact ald k0 k1 r2 k2 k3 k4 k5 k6 k7 k8 k9 k10 k11 k12 k13 k14)
theorem amy (n:Nat):dG (List bN) Tryz.prog 37 n:=kG Tryz.underlying37 (by kernel_rfl) (by decide+kernel) fun n _=>alV _
theorem amx (n:Nat):dG Wld Tryz.prog 39 n:=jf Tryz.underlying39 (by kernel_rfl) (fun n _=>bg (k:=12) rfl (by kernel_rfl) (amF _) (bg (k:=1) rfl (by kernel_rfl) (bT Tryz.underlying3) (bg (k:=1) rfl (by kernel_rfl) (uz Tryz.underlying4) (bg (k:=1) rfl (by kernel_rfl) (amE _) (bg (k:=1) rfl (by kernel_rfl) (bT Tryz.underlying3) (bg (k:=4) rfl (by kernel_rfl) (amD _) (bg (k:=1) rfl (by kernel_rfl) (amC _) (bg (k:=1) rfl (by kernel_rfl) (bT Tryz.underlying3) (bg (k:=4) rfl (by kernel_rfl) (amB _) (bg (k:=1) rfl (by kernel_rfl) (KP _) (bg (k:=1) rfl (by kernel_rfl) (KO _) (bg (k:=1) rfl (by kernel_rfl) (KO _) (bg (k:=1) rfl (by kernel_rfl) (amA _) (bg (k:=1) rfl (by kernel_rfl) (amy _) (bg (k:=1) rfl (by kernel_rfl) (bT Tryz.underlying3) (jg)))))))))))))))) (by
 rintro h avs F ⟨x0,c0,_,F0,_,rfl,rfl,r0,k0,x1,c1,_,F1,_,rfl,rfl,⟨rfl,rfl⟩,k1,x2,c2,_,F2,_,rfl,rfl,⟨rfl,rfl⟩,k2,x3,c3,_,F3,_,rfl,rfl,⟨v3,rfl,r3⟩,k3,x4,c4,_,F4,_,rfl,rfl,⟨rfl,rfl⟩,k4,x5,c5,_,F5,_,rfl,rfl,r5,k5,x6,c6,_,F6,_,rfl,rfl,⟨v6,rfl,r6⟩,k6,x7,c7,_,F7,_,rfl,rfl,⟨rfl,rfl⟩,k7,x8,c8,_,F8,_,rfl,rfl,r8,k8,x9,c9,_,F9,_,rfl,rfl,⟨v9,rfl,r9⟩,k9,x10,c10,_,F10,_,rfl,rfl,⟨v10,rfl,r10⟩,k10,x11,c11,_,F11,_,rfl,rfl,⟨v11,rfl,r11⟩,k11,x12,c12,_,F12,_,rfl,rfl,⟨v12,rfl,r12⟩,k12,x13,c13,_,F13,_,rfl,rfl,⟨v13,rfl,r13⟩,k13,x14,c14,_,F14,_,rfl,rfl,⟨rfl,rfl⟩,k14,rfl,rfl⟩
 exact al4 r0 k0 k1 k2 r3 k3 k4 r5 k5 r6 k6 k7 r8 k8 r9 k9 r10 k10 r11 k11 r12 k12 r13 k13 k14)
end
theorem own:ownKnob Tryz.prog.godebug=none:=by kernel_rfl
theorem laid:laidOutB Tryz.prog=true:=by kernel_rfl
set_option maxRecDepth 100000 in
theorem lifted (os:Os) (started:os.Started) (H:Type) (enc:TypeId × Value→H):
  ReturnsInHanded {} Tryz.checked os 3 .any (Rows.fnExactJudgeStepSpec.pre6 enc Tryz.prog Tryz.f3 Rows.fnExactJudgeStepRow.domain false) (Rows.fnExactJudgeStepSpec.post enc Tryz.prog Tryz.f3 false true false false):=by
 refine returnsInHanded_of_change_sized (C:=Tryz.checked) own started (by kernel_rfl) Tryz.func3
  (ChangeSpec.witness6 (enc:=enc) (C:=Tryz.checked) false ⟨#[],#[.agg #[.int .i64 0,.int .i64 0,.int .i64 0,.int .i64 0,.int .i64 0,.int .i64 0,.int .i64 0,.int .i64 0,.int .i64 0,.string ⟨#[]⟩,.string ⟨#[]⟩,.slice none 0 0,.int .i64 0,.bool false,.slice none 0 0,.int .i64 0,.int .i64 0,.int .i64 0,.int .i64 0,.int .i64 0,.slice none 0 0,.int .i64 0,.int .i64 0,.slice none 0 0,.slice none 0 0,.slice none 0 0,.slice none 0 0,.slice none 0 0,.slice none 0 0,.slice none 0 0,.slice none 0 0,.int .i64 0],.int .i64 0],[]⟩ 20 (by kernel_rfl) (by kernel_rfl) (by kernel_rfl) (by kernel_rfl)) ?_
 intro W base args ds gs before hval0 hW hcnd hsz0 _
 have hsz:(DataW.weightsEach Tryz.prog (Tryz.f3.params.toList++Rows.fnExactJudgeStepSpec.plain.varTypes Tryz.prog) (ds++gs)).all (·≤reachBytes)=true:=hsz0
 have hval:∀ (j:Nat) t v,Tryz.f3.params[j]? =some t→args[j]? =some v→Value.okWide Tryz.prog W .any base t v:=hval0
 have hW':=hW
 obtain⟨p,q,hA0,hV,rfl,hfz,hnd⟩:=hW
 have hA:DataW.TrodAll enc Tryz.prog W 0 (fun _=>true) true Tryz.f3.params.toList args.toList ds p:=hA0
 rw[Tryz.params3] at hA hval hsz
 obtain⟨rfl,rfl⟩:=trodVars_none hV
 have hlt:∀ x∈p,x.block < W.heap.size:=fun x hx=>hW'.lt x (by simpa using hx)
 have hwt:∀ n∈DataW.weightsEach Tryz.prog [39,3] ds,n≤reachBytes:=by
  intro n hn
  have hsz':=List.all_eq_true.1 hsz n (by simpa[ChangeSpec.plain,DataSpec.varTypes,Rows.fnExactJudgeStepSpec] using hn)
  simpa using hsz'
 have key:=ajW (P:=Tryz.prog) (f:=3) (ahl Tryz.underlying39 amx (ajh Tryz.underlying3 (ajg))) (fun h avs hr=>by
  obtain⟨cs0,xs0,F0,_,rfl,r0,k0,n1,_,rfl,k1,rfl⟩:=hr
  exact ZV r0 k0 k1) (fun j t v hj hv=>hval j t v (by simpa using hj) (by simpa using hv)) hA hwt
 refine key.mono fun e W' ⟨he,bel⟩=>?_
 subst he
 have hA2:=hA
 obtain⟨u0,us0,d0,ds0,p0,q0,hargs,rfl,rfl,hT0,hR0⟩:=trodAll_cons hA2
 obtain⟨u1,us1,d1,ds1,p1,q1,rfl,rfl,rfl,hT1,hR1⟩:=trodAll_cons hR0
 obtain⟨rfl,rfl,rfl⟩:=trodAll_nil hR1
 exact⟨_,rfl,_,_,_,[],_,[],hW',trodAll_mk1 (shut_bool Tryz.underlying4 _),P7 laid bel (by kernel_rfl) hA2 hlt,rfl,bel.frame _,fun h=>by cases h⟩
theorem anU {a b:Bool} (ha:a=true) (hb:b=true):(a && b)=true:=by rw[ha,hb];rfl
set_option maxHeartbeats 8000000 in
theorem facts:joinedFacts Tryz.pinned.checked.prog 3 Tryz.f3 Rows.fnExactJudgeStepSpec Rows.fnExactJudgeStepRow=true:=by
 unfold joinedFacts
 (repeat' with_reducible refine anU ?_ ?_)<;>as_aux_lemma=>kernel_rfl
theorem over:Rows.fnExactJudgeStepRow.holds Tryz.pinned (OpenSpec.ofChange Rows.fnExactJudgeStepSpec):=
 OpenClaim.holds_of_wide 3 Tryz.f3 rfl rfl rfl rfl rfl rfl rfl ⟨rfl,rfl,rfl,rfl,rfl⟩ rfl rfl rfl rfl rfl (by kernel_rfl) Tryz.func3 facts
  (of_decide_eq_true (by kernel_rfl)) (by unfold Func.isWrapper;first|(rw[if_pos (by decide+kernel)];kernel_rfl)|(rw[if_neg (by decide+kernel)];exact⟨rfl,rfl⟩))
  (fun os started H enc _=>lifted os started H enc)
theorem proved:Rows.FnExactJudgeStepSaid:=over
#print axioms proved
end Go.Proofs.YtekfdoknfcedpaaGreat.fnExactJudgeStep
namespace Go.Proofs.YtekfdoknfcedpaaGreat
theorem fnExactJudgeStep_holds:Rows.FnExactJudgeStepSaid:=fnExactJudgeStep.proved
end Go.Proofs.YtekfdoknfcedpaaGreat
