import Derived.Test.YtcgjihfngdhjjaaGreatRows
import Derived.WalkKit
import Derived.ProofKit
import Derived.OpenShut
import Derived.SizedLaws
import Derived.Test.YtcgjihfngdhjjaaGreatDK4
import Derived.Test.YtcgjihfngdhjjaaGreatDXFnTimersAhead
set_option linter.unusedVariables false
namespace Go.Proofs.YtcgjihfngdhjjaaGreat.fnTimersAhead
open Go.ChangeShapes Go.WideShapes Go.ChangeAt Go.RowKit Go.Ab
section
set_option maxRecDepth 100000
theorem CZ (n:Nat):tH (List UInt8) Tryz.prog 22 n:=KT Tryz.underlying22 (by kernel_rfl) (by decide+kernel) fun n _=>K3 Tryz.underlying5
end
theorem own:ownKnob Tryz.prog.godebug=none:=by kernel_rfl
theorem laid:laidOutB Tryz.prog=true:=by kernel_rfl
set_option maxRecDepth 100000 in
theorem lifted (os:Os) (started:os.Started) (H:Type) (enc:TypeId × Value→H):
  ReturnsInHanded {} Tryz.checked os 5 .any (Rows.fnTimersAheadSpec.pre6 enc Tryz.prog Tryz.f5 Rows.fnTimersAheadRow.domain false) (Rows.fnTimersAheadSpec.post enc Tryz.prog Tryz.f5 false true false false):=by
 refine returnsInHanded_of_change_sized (C:=Tryz.checked) own started (by kernel_rfl) Tryz.func5
  (ChangeSpec.witness6 (enc:=enc) (C:=Tryz.checked) false ⟨#[],#[.slice none 0 0],[]⟩ 20 (by kernel_rfl) (by kernel_rfl) (by kernel_rfl) (by kernel_rfl)) ?_
 intro W base args ds gs before hval0 hW hcnd hsz0 _
 have hsz:(DataW.weightsEach Tryz.prog (Tryz.f5.params.toList++Rows.fnTimersAheadSpec.plain.varTypes Tryz.prog) (ds++gs)).all (·≤reachBytes)=true:=hsz0
 have hval:∀ (j:Nat) t v,Tryz.f5.params[j]? =some t→args[j]? =some v→Value.okWide Tryz.prog W .any base t v:=hval0
 have hW':=hW
 obtain⟨p,q,hA0,hV,rfl,hfz,hnd⟩:=hW
 have hA:DataW.TrodAll enc Tryz.prog W 0 (fun _=>true) true Tryz.f5.params.toList args.toList ds p:=hA0
 rw[Tryz.params5] at hA hval hsz
 obtain⟨rfl,rfl⟩:=trodVars_none hV
 have hlt:∀ x∈p,x.block < W.heap.size:=fun x hx=>hW'.lt x (by simpa using hx)
 have hwt:∀ n∈DataW.weightsEach Tryz.prog [22] ds,n≤reachBytes:=by
  intro n hn
  have hsz':=List.all_eq_true.1 hsz n (by simpa[ChangeSpec.plain,DataSpec.varTypes,Rows.fnTimersAheadSpec] using hn)
  simpa using hsz'
 have key:=Lm (P:=Tryz.prog) (f:=5) (KI Tryz.underlying22 CZ (K4)) (fun h avs hr=>by
  obtain⟨v0,xs0,F0,_,rfl,r0,k0,rfl⟩:=hr
  exact aat r0 k0) (fun j t v hj hv=>hval j t v (by simpa using hj) (by simpa using hv)) hA hwt
 refine key.mono fun e W' ⟨he,bel⟩=>?_
 subst he
 have hA2:=hA
 obtain⟨u0,us0,d0,ds0,p0,q0,hargs,rfl,rfl,hT0,hR0⟩:=trodAll_cons hA2
 obtain⟨rfl,rfl,rfl⟩:=trodAll_nil hR0
 exact⟨_,rfl,_,_,_,[],_,[],hW',trodAll_mk1 (shut_bool Tryz.underlying4 _),Fg laid bel (by kernel_rfl) hA2 hlt,rfl,bel.frame _,fun h=>by cases h⟩
theorem DR {a b:Bool} (ha:a=true) (hb:b=true):(a && b)=true:=by rw[ha,hb];rfl
set_option maxHeartbeats 8000000 in
theorem facts:joinedFacts Tryz.pinned.checked.prog 5 Tryz.f5 Rows.fnTimersAheadSpec Rows.fnTimersAheadRow=true:=by
 unfold joinedFacts
 (repeat' with_reducible refine DR ?_ ?_)<;>as_aux_lemma=>kernel_rfl
theorem over:Rows.fnTimersAheadRow.holds Tryz.pinned (OpenSpec.ofChange Rows.fnTimersAheadSpec):=
 OpenClaim.holds_of_wide 5 Tryz.f5 rfl rfl rfl rfl rfl rfl rfl ⟨rfl,rfl,rfl,rfl,rfl⟩ rfl rfl rfl rfl rfl (by kernel_rfl) Tryz.func5 facts
  (of_decide_eq_true (by kernel_rfl)) (by unfold Func.isWrapper;first|(rw[if_pos (by decide+kernel)];kernel_rfl)|(rw[if_neg (by decide+kernel)];exact⟨rfl,rfl⟩))
  (fun os started H enc _=>lifted os started H enc)
theorem proved:Rows.FnTimersAheadSaid:=over
#print axioms proved
end Go.Proofs.YtcgjihfngdhjjaaGreat.fnTimersAhead
namespace Go.Proofs.YtcgjihfngdhjjaaGreat
theorem fnTimersAhead_holds:Rows.FnTimersAheadSaid:=fnTimersAhead.proved
end Go.Proofs.YtcgjihfngdhjjaaGreat
