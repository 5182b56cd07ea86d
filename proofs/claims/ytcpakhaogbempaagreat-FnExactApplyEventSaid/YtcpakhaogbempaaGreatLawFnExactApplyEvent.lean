/- The statement FnExactApplyEventSaid: the law's row, out of its plain law and of what its functions compute. -/
import Derived.Test.YtcpakhaogbempaaGreatRows
import Derived.Test.YtcpakhaogbempaaGreatPlLaw
import Derived.Test.YtcpakhaogbempaaGreatSnd4
import Derived.WalkKit
import Derived.ProofKit
import Derived.OpenShut
import Derived.ShutString
import Derived.ChangeOld
import Derived.Below
import Derived.SizedLaws
namespace Go.Proofs.YtcpakhaogbempaaGreat.np
open Go.ChangeShapes Go.WideShapes Go.ChangeAt Go.RowKit Go.Pv Go.Pv.R
set_option linter.unusedVariables false
theorem own : ownKnob Tryz.prog.godebug = none := by kernel_rfl
theorem laidOut : laidOutB Tryz.prog = true := by kernel_rfl
theorem az9 : ZK tab = true := by kernel_rfl
noncomputable def Ts : List TypeId := [53, 88]
noncomputable def ts : List Ty := [bY, df]
theorem pure (x : rh ts) (h : wfs ts x) : ∃ N, L6 N ((iS ts x).map .tv) some = some ⟨[⟨.bool, .k, true⟩], []⟩ := by
  obtain ⟨N, hN⟩ := Go.Pv.R.rY x.1 x.2.1 h
  refine ⟨N, ?_⟩
  have e : L6 N ((iS ts x).map .tv) some = L9 N x.1 x.2.1 (fun r => some ⟨[⟨.bool, .k, r⟩], []⟩) := by kernel_rfl
  rw [e, hN]
set_option maxRecDepth 100000 in
theorem lifted (os : Os) (started : os.Started) (H : Type) (enc : TypeId × Value → H) :
    ReturnsInHanded {} Tryz.checked os 9 .any (Rows.fnExactApplyEventSpec.pre6 enc Tryz.prog Tryz.f9 Rows.fnExactApplyEventRow.domain false) (Rows.fnExactApplyEventSpec.post enc Tryz.prog Tryz.f9 false true false false) := by
  refine returnsInHanded_of_change_sized (C := Tryz.checked) own started (by kernel_rfl) Tryz.func9
    (ChangeSpec.witness6 (enc := enc) (C := Tryz.checked) false ⟨#[], #[.agg #[.slice none 0 0, .slice none 0 0, .slice none 0 0, .slice none 0 0, .slice none 0 0, .slice none 0 0, .int .i64 0], .agg #[.int .i64 0, .int .i64 0, .int .i64 0, .int .i64 0]], []⟩ 8 (by kernel_rfl) (by kernel_rfl) (by kernel_rfl) (by kernel_rfl)) ?_
  intro W base args ds gs before azl hW ade aAq _
  have iJ : ∀ (j : Nat) t v, Tryz.f9.params[j]? = some t → args[j]? = some v → Value.okWide Tryz.prog W .any base t v := azl
  have hW' := hW
  obtain ⟨p, q, hA0, hV, rfl, hfz, Mj⟩ := hW
  have hA : DataW.TrodAll enc Tryz.prog W 0 (fun _ => true) true Tryz.f9.params.toList args.toList ds p := hA0
  rw [Tryz.params9] at hA iJ
  obtain ⟨v0, vs0, d0, ds0, p0, q0, Hj, rfl, rfl, h0, r0⟩ := trodAll_cons hA
  obtain ⟨v1, vs1, d1, ds1, p1, q1, rfl, rfl, rfl, h1, r1⟩ := trodAll_cons r0
  obtain ⟨rfl, rfl, rfl⟩ := trodAll_nil r1
  obtain rfl : args = #[v0, v1] := by cases args; simp_all
  obtain ⟨rfl, rfl⟩ := trodVars_none hV
  refine (ajz (run := L6) (Θ := tab) (Ts := Ts) (ts := ts) azk kT az9 laidOut (by kernel_rfl) (by kernel_rfl) pure (fun j t v hj hv => iJ j t v (by simpa [Ts] using hj) hv) hA (enters Tryz.func9 (body := L7) (by kernel_rfl) (by kernel_rfl) _)).mono fun e W' ⟨he, bel, back⟩ => ?_
  subst he
  exact ⟨_, rfl, _, _, _, [], _, [], hW', trodAll_mk1 (shut_bool Tryz.underlying4 _), back, rfl, bel.frame _, fun h => by cases h⟩
theorem az' : Rows.fnExactApplyEventRow.holds Tryz.pinned (OpenSpec.ofChange Rows.fnExactApplyEventSpec) :=
  OpenClaim.holds_of_wide 9 Tryz.f9 rfl rfl rfl rfl rfl rfl rfl ⟨rfl, rfl, rfl, rfl, rfl⟩ rfl rfl rfl rfl rfl (by kernel_rfl) Tryz.func9 (by kernel_rfl)
    (of_decide_eq_true (by kernel_rfl)) (by unfold Func.isWrapper; first | (rw [if_pos (by decide +kernel)]; kernel_rfl) | (rw [if_neg (by decide +kernel)]; exact ⟨rfl, rfl⟩))
    (fun os started H enc _ => lifted os started H enc)
theorem proved : Rows.FnExactApplyEventSaid := az'
end Go.Proofs.YtcpakhaogbempaaGreat.np
namespace Go.Proofs.YtcpakhaogbempaaGreat
/-- The row, under a short name, for the claim. -/
theorem fnExactApplyEvent_holds : Rows.FnExactApplyEventSaid := np.proved
end Go.Proofs.YtcpakhaogbempaaGreat
