/- The statement FnExactStepJudgeSaid: the law's row, out of its plain law and of what its functions compute. -/
import Derived.Test.YtincnfhdeafmmaaGreatRows
import Derived.Test.YtincnfhdeafmmaaGreatPlLaw
import Derived.Test.YtincnfhdeafmmaaGreatSnd2
import Derived.WalkKit
import Derived.ProofKit
import Derived.OpenShut
import Derived.ShutString
import Derived.ChangeOld
import Derived.Below
import Derived.SizedLaws
namespace Go.Proofs.YtincnfhdeafmmaaGreat.fnExactStepJudge
open Go.ChangeShapes Go.WideShapes Go.ChangeAt Go.RowKit Go.Pv Go.Pv.R
set_option linter.unusedVariables false
theorem own : ownKnob Tryz.prog.godebug = none := by kernel_rfl
theorem laidOut : laidOutB Tryz.prog = true := by kernel_rfl
theorem tabu : tabU tab = true := by kernel_rfl
noncomputable def Ts : List TypeId := [29, 3, 3]
noncomputable def ts : List Ty := [tQLQIIIIILIELQIILIELQIIELILQIIIELQIIIIEIE, (.int .i64), (.int .i64)]
theorem pure (x : PVals ts) (h : wfs ts x) : ∃ N, run_laws_FnExactStepJudge N ((pshape ts x).map .tv) some = some ⟨[⟨.bool, .k, true⟩], []⟩ := by
  obtain ⟨N, hN⟩ := Go.Pv.R.lawFnExactStepJudge x.1 x.2.1 x.2.2.1 h
  refine ⟨N, ?_⟩
  have e : run_laws_FnExactStepJudge N ((pshape ts x).map .tv) some = laws_FnExactStepJudge N x.1 x.2.1 x.2.2.1 (fun r => some ⟨[⟨.bool, .k, r⟩], []⟩) := by kernel_rfl
  rw [e, hN]
set_option maxRecDepth 100000 in
theorem lifted (os : Os) (started : os.Started) (H : Type) (enc : TypeId × Value → H) :
    ReturnsInHanded {} Tryz.checked os 6 .any (Rows.fnExactStepJudgeSpec.pre6 enc Tryz.prog Tryz.f6 Rows.fnExactStepJudgeRow.domain false) (Rows.fnExactStepJudgeSpec.post enc Tryz.prog Tryz.f6 false true false false) := by
  refine returnsInHanded_of_change_sized (C := Tryz.checked) own started (by kernel_rfl) Tryz.func6
    (ChangeSpec.witness6 (enc := enc) (C := Tryz.checked) false ⟨#[], #[.agg #[.slice none 0 0, .slice none 0 0, .slice none 0 0, .slice none 0 0, .slice none 0 0, .slice none 0 0, .int .i64 0], .int .i64 0, .int .i64 0], []⟩ 8 (by kernel_rfl) (by kernel_rfl) (by kernel_rfl) (by kernel_rfl)) ?_
  intro W base args ds gs before hval0 hW hcnd hsz0 _
  have hval : ∀ (j : Nat) t v, Tryz.f6.params[j]? = some t → args[j]? = some v → Value.okWide Tryz.prog W .any base t v := hval0
  have hW' := hW
  obtain ⟨p, q, hA0, hV, rfl, hfz, hnd⟩ := hW
  have hA : DataW.TrodAll enc Tryz.prog W 0 (fun _ => true) true Tryz.f6.params.toList args.toList ds p := hA0
  rw [Tryz.params6] at hA hval
  obtain ⟨v0, vs0, d0, ds0, p0, q0, hargs, rfl, rfl, h0, r0⟩ := trodAll_cons hA
  obtain ⟨v1, vs1, d1, ds1, p1, q1, rfl, rfl, rfl, h1, r1⟩ := trodAll_cons r0
  obtain ⟨v2, vs2, d2, ds2, p2, q2, rfl, rfl, rfl, h2, r2⟩ := trodAll_cons r1
  obtain ⟨rfl, rfl, rfl⟩ := trodAll_nil r2
  obtain rfl : args = #[v0, v1, v2] := by cases args; simp_all
  obtain ⟨rfl, rfl⟩ := trodVars_none hV
  refine (row_mid (run := run_laws_FnExactStepJudge) (Θ := tab) (Ts := Ts) (ts := ts) sd_laws_FnExactStepJudge tab_ok tabu laidOut (by kernel_rfl) (by kernel_rfl) pure (fun j t v hj hv => hval j t v (by simpa [Ts] using hj) hv) hA (enters Tryz.func6 (body := body_laws_FnExactStepJudge) (by kernel_rfl) (by kernel_rfl) _)).mono fun e W' ⟨he, bel, back⟩ => ?_
  subst he
  exact ⟨_, rfl, _, _, _, [], _, [], hW', trodAll_mk1 (shut_bool Tryz.underlying4 _), back, rfl, bel.frame _, fun h => by cases h⟩
theorem over : Rows.fnExactStepJudgeRow.holds Tryz.pinned (OpenSpec.ofChange Rows.fnExactStepJudgeSpec) :=
  OpenClaim.holds_of_wide 6 Tryz.f6 rfl rfl rfl rfl rfl rfl rfl ⟨rfl, rfl, rfl, rfl, rfl⟩ rfl rfl rfl rfl rfl (by kernel_rfl) Tryz.func6 (by kernel_rfl)
    (of_decide_eq_true (by kernel_rfl)) (by unfold Func.isWrapper; first | (rw [if_pos (by decide +kernel)]; kernel_rfl) | (rw [if_neg (by decide +kernel)]; exact ⟨rfl, rfl⟩))
    (fun os started H enc _ => lifted os started H enc)
theorem proved : Rows.FnExactStepJudgeSaid := over
end Go.Proofs.YtincnfhdeafmmaaGreat.fnExactStepJudge
namespace Go.Proofs.YtincnfhdeafmmaaGreat
/-- The row, under a short name, for the claim. -/
theorem fnExactStepJudge_holds : Rows.FnExactStepJudgeSaid := fnExactStepJudge.proved
end Go.Proofs.YtincnfhdeafmmaaGreat
