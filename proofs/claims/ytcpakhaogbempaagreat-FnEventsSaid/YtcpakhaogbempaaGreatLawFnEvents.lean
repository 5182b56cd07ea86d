/- The statement FnEventsSaid: the law's row, out of its plain law and of what its functions compute. -/
import Derived.Test.YtcpakhaogbempaaGreatRows
import Derived.Test.YtcpakhaogbempaaGreatPlLaw
import Derived.Test.YtcpakhaogbempaaGreatSnd3
import Derived.WalkKit
import Derived.ProofKit
import Derived.OpenShut
import Derived.ShutString
import Derived.ChangeOld
import Derived.Below
import Derived.SizedLaws
namespace Go.Proofs.YtcpakhaogbempaaGreat.Q0
open Go.ChangeShapes Go.WideShapes Go.ChangeAt Go.RowKit Go.Pv Go.Pv.R
set_option linter.unusedVariables false
theorem own : ownKnob Tryz.prog.godebug = none := by kernel_rfl
theorem laidOut : laidOutB Tryz.prog = true := by kernel_rfl
theorem axG : Za tab = true := by kernel_rfl
noncomputable def Ts : List TypeId := [22]
noncomputable def ts : List Ty := [(.sl (.int .u8))]
theorem pure (x : sq ts) (h : wfs ts x) : ∃ N, ME N ((jF ts x).map .tv) some = some ⟨[⟨.bool, .k, true⟩], []⟩ := by
  obtain ⟨N, hN⟩ := Go.Pv.R.OI x.1 h
  refine ⟨N, ?_⟩
  have e : ME N ((jF ts x).map .tv) some = L7 N x.1 (fun r => some ⟨[⟨.bool, .k, r⟩], []⟩) := by kernel_rfl
  rw [e, hN]
set_option maxRecDepth 100000 in
theorem lifted (os : Os) (started : os.Started) (H : Type) (enc : TypeId × Value → H) :
    ReturnsInHanded {} Tryz.checked os 7 .any (Rows.fnEventsSpec.pre6 enc Tryz.prog Tryz.f7 Rows.fnEventsRow.domain false) (Rows.fnEventsSpec.post enc Tryz.prog Tryz.f7 false true false false) := by
  refine returnsInHanded_of_change_sized (C := Tryz.checked) own started (by kernel_rfl) Tryz.func7
    (ChangeSpec.witness6 (enc := enc) (C := Tryz.checked) false ⟨#[], #[.slice none 0 0], []⟩ 8 (by kernel_rfl) (by kernel_rfl) (by kernel_rfl) (by kernel_rfl)) ?_
  intro W base args ds gs before awN hW acv ax3 _
  have jw : ∀ (j : Nat) t v, Tryz.f7.params[j]? = some t → args[j]? = some v → Value.okWide Tryz.prog W .any base t v := awN
  have hW' := hW
  obtain ⟨p, q, hA0, hV, rfl, hfz, MO⟩ := hW
  have hA : DataW.TrodAll enc Tryz.prog W 0 (fun _ => true) true Tryz.f7.params.toList args.toList ds p := hA0
  rw [Tryz.params7] at hA jw
  obtain ⟨v0, vs0, d0, ds0, p0, q0, HS, rfl, rfl, h0, r0⟩ := trodAll_cons hA
  obtain ⟨rfl, rfl, rfl⟩ := trodAll_nil r0
  obtain rfl : args = #[v0] := by cases args; simp_all
  obtain ⟨rfl, rfl⟩ := trodVars_none hV
  refine (aiu (run := ME) (Θ := tab) (Ts := Ts) (ts := ts) awM lL axG laidOut (by kernel_rfl) (by kernel_rfl) pure (fun j t v hj hv => jw j t v (by simpa [Ts] using hj) hv) hA (enters Tryz.func7 (body := DU) (by kernel_rfl) (by kernel_rfl) _)).mono fun e W' ⟨he, bel, back⟩ => ?_
  subst he
  exact ⟨_, rfl, _, _, _, [], _, [], hW', trodAll_mk1 (shut_bool Tryz.underlying4 _), back, rfl, bel.frame _, fun h => by cases h⟩
theorem axH : Rows.fnEventsRow.holds Tryz.pinned (OpenSpec.ofChange Rows.fnEventsSpec) :=
  OpenClaim.holds_of_wide 7 Tryz.f7 rfl rfl rfl rfl rfl rfl rfl ⟨rfl, rfl, rfl, rfl, rfl⟩ rfl rfl rfl rfl rfl (by kernel_rfl) Tryz.func7 (by kernel_rfl)
    (of_decide_eq_true (by kernel_rfl)) (by unfold Func.isWrapper; first | (rw [if_pos (by decide +kernel)]; kernel_rfl) | (rw [if_neg (by decide +kernel)]; exact ⟨rfl, rfl⟩))
    (fun os started H enc _ => lifted os started H enc)
theorem proved : Rows.FnEventsSaid := axH
end Go.Proofs.YtcpakhaogbempaaGreat.Q0
namespace Go.Proofs.YtcpakhaogbempaaGreat
/-- The row, under a short name, for the claim. -/
theorem fnEvents_holds : Rows.FnEventsSaid := Q0.proved
end Go.Proofs.YtcpakhaogbempaaGreat
