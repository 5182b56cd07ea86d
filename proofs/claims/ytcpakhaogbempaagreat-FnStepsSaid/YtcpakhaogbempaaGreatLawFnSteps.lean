/- The statement FnStepsSaid: the law's row, out of its plain law and of what its functions compute. -/
import Derived.Test.YtcpakhaogbempaaGreatRows
import Derived.Test.YtcpakhaogbempaaGreatPlLaw
import Derived.Test.YtcpakhaogbempaaGreatSnd4
import Derived.WalkKit
import Derived.ProofKit
import Derived.OpenShut
import Derived.ShutString
import Derived.ChangeOld
import Derived.Below
import Derived.SizedLaws
namespace Go.Proofs.YtcpakhaogbempaaGreat.YL
open Go.ChangeShapes Go.WideShapes Go.ChangeAt Go.RowKit Go.Pv Go.Pv.R
set_option linter.unusedVariables false
theorem own : ownKnob Tryz.prog.godebug = none := by kernel_rfl
theorem laidOut : laidOutB Tryz.prog = true := by kernel_rfl
theorem axB : Zo tab = true := by kernel_rfl
noncomputable def Ts : List TypeId := [22]
noncomputable def ts : List Ty := [(.sl (.int .u8))]
theorem pure (x : tc ts) (h : wfs ts x) : ∃ N, Ni N ((kH ts x).map .tv) some = some ⟨[⟨.bool, .k, true⟩], []⟩ := by
  obtain ⟨N, hN⟩ := Go.Pv.R.TJ x.1 h
  refine ⟨N, ?_⟩
  have e : Ni N ((kH ts x).map .tv) some = L6 N x.1 (fun r => some ⟨[⟨.bool, .k, r⟩], []⟩) := by kernel_rfl
  rw [e, hN]
set_option maxRecDepth 100000 in
theorem lifted (os : Os) (started : os.Started) (H : Type) (enc : TypeId × Value → H) :
    ReturnsInHanded {} Tryz.checked os 6 .any (Rows.fnStepsSpec.pre6 enc Tryz.prog Tryz.f6 Rows.fnStepsRow.domain false) (Rows.fnStepsSpec.post enc Tryz.prog Tryz.f6 false true false false) := by
  refine returnsInHanded_of_change_sized (C := Tryz.checked) own started (by kernel_rfl) Tryz.func6
    (ChangeSpec.witness6 (enc := enc) (C := Tryz.checked) false ⟨#[], #[.slice none 0 0], []⟩ 8 (by kernel_rfl) (by kernel_rfl) (by kernel_rfl) (by kernel_rfl)) ?_
  intro W base args ds gs before awH hW acX axW _
  have kr : ∀ (j : Nat) t v, Tryz.f6.params[j]? = some t → args[j]? = some v → Value.okWide Tryz.prog W .any base t v := awH
  have hW' := hW
  obtain ⟨p, q, hA0, hV, rfl, hfz, Nu⟩ := hW
  have hA : DataW.TrodAll enc Tryz.prog W 0 (fun _ => true) true Tryz.f6.params.toList args.toList ds p := hA0
  rw [Tryz.params6] at hA kr
  obtain ⟨v0, vs0, d0, ds0, p0, q0, Iq, rfl, rfl, h0, r0⟩ := trodAll_cons hA
  obtain ⟨rfl, rfl, rfl⟩ := trodAll_nil r0
  obtain rfl : args = #[v0] := by cases args; simp_all
  obtain ⟨rfl, rfl⟩ := trodVars_none hV
  refine (air (run := Ni) (Θ := tab) (Ts := Ts) (ts := ts) awG mA axB laidOut (by kernel_rfl) (by kernel_rfl) pure (fun j t v hj hv => kr j t v (by simpa [Ts] using hj) hv) hA (enters Tryz.func6 (body := bn) (by kernel_rfl) (by kernel_rfl) _)).mono fun e W' ⟨he, bel, back⟩ => ?_
  subst he
  exact ⟨_, rfl, _, _, _, [], _, [], hW', trodAll_mk1 (shut_bool Tryz.underlying4 _), back, rfl, bel.frame _, fun h => by cases h⟩
theorem axC : Rows.fnStepsRow.holds Tryz.pinned (OpenSpec.ofChange Rows.fnStepsSpec) :=
  OpenClaim.holds_of_wide 6 Tryz.f6 rfl rfl rfl rfl rfl rfl rfl ⟨rfl, rfl, rfl, rfl, rfl⟩ rfl rfl rfl rfl rfl (by kernel_rfl) Tryz.func6 (by kernel_rfl)
    (of_decide_eq_true (by kernel_rfl)) (by unfold Func.isWrapper; first | (rw [if_pos (by decide +kernel)]; kernel_rfl) | (rw [if_neg (by decide +kernel)]; exact ⟨rfl, rfl⟩))
    (fun os started H enc _ => lifted os started H enc)
theorem proved : Rows.FnStepsSaid := axC
end Go.Proofs.YtcpakhaogbempaaGreat.YL
namespace Go.Proofs.YtcpakhaogbempaaGreat
/-- The row, under a short name, for the claim. -/
theorem fnSteps_holds : Rows.FnStepsSaid := YL.proved
end Go.Proofs.YtcpakhaogbempaaGreat
